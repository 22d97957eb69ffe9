/- lemmas -/
import Derived.Test.YthpkdfdacidamaaGreatPlA
import Derived.Test.YthpkdfdacidamaaGreatMdTA
set_option linter.all false
set_option linter.unusedSectionVars false
set_option linter.unusedVariables false
set_option linter.unusedSimpArgs false
noncomputable section
namespace Go.Proofs.ZzM
open Go Go.Am
def aeQ {k:Int×Int} (hk:0<k.2) (m n:Int):0<ahN (wV k m) (wV k n)↔k.1*n<k.1*m:=by
 obtain⟨g,g0,_,g1,g2⟩:=xb (n:=k.1*m) hk;obtain⟨h,h0,_,h1,h2⟩:=xb (n:=k.1*n) hk
 have key:(wV k n).1*(wV k m).2<(wV k m).1*(wV k n).2↔k.1*n<k.1*m:=by
  have e1:(wV k n).1*(wV k m).2*((g:Int)*h)=k.1*n*k.2:=by
   show(rq (k.1*n) k.2).1*(rq (k.1*m) k.2).2*((g:Int)*h)=k.1*n*k.2
   calc _=((rq (k.1*n) k.2).1*h)*((rq (k.1*m) k.2).2*g):=by ac_rfl
    _=_:=by rw[←h1,←g2]
  have e2:(wV k m).1*(wV k n).2*((g:Int)*h)=k.1*m*k.2:=by
   show(rq (k.1*m) k.2).1*(rq (k.1*n) k.2).2*((g:Int)*h)=k.1*m*k.2
   calc _=((rq (k.1*m) k.2).1*g)*((rq (k.1*n) k.2).2*h):=by ac_rfl
    _=_:=by rw[←g1,←h2]
  have pg:0<(g:Int)*h:=Int.mul_pos (by omega) (by omega);constructor
  ·intro hl;have:=Int.mul_lt_mul_of_pos_right hl pg;rw[e1,e2] at this;exact Int.lt_of_mul_lt_mul_right this (by omega)
  ·intro hl;have:=Int.mul_lt_mul_of_pos_right hl hk;rw[←e1,←e2] at this;exact Int.lt_of_mul_lt_mul_right this (by omega)
 rw[←key];unfold ahN
 by_cases he:wV k m=wV k n
 ·rw[if_pos he,he];omega
 ·rw[if_neg he]
  split
  ·omega
  ·split<;>omega
def P4 {k:Int×Int} (hk:0<k.2) {heat:Int×Int} (hh:heat.1≤heat.2):B5 k heat=if k.1<0 then(wV k heat.2,wV k heat.1) else(wV k heat.1,wV k heat.2):=by
 unfold B5
 by_cases hn:k.1<0
 ·rw[if_pos hn]
  by_cases he:heat.1=heat.2
  ·rw[he]
   split<;>rfl
  ·rw[if_pos ((aeQ hk _ _).2 (Int.mul_lt_mul_of_neg_left (by omega) hn))]
 ·rw[if_neg hn,if_neg (fun h=>by
   have h1:=(aeQ hk _ _).1 h;have h2:=gj hh (show 0≤k.1 by omega)
   omega)]
def ajd (b:ò) (g d:Int):Bool×Int:=if uC b g [d]≠0 then(false,uC b g [d]) else((nY b g d).isSome,0)
def ajc {b:ò} (h:In b) (g d:Int):BL b g d=some (ajd b g d):=by
 have hu:=h.size.loans;unfold BL Tf ajd;rw[WW h g (by simp),À]
 by_cases ha:uC b g [d]=0
 ·rw[Ò (by simp[ine,ha]),afo (by omega),À,if_neg (by simpa using ha)]
  cases nY b g d<;>rfl
 ·rw[Ü (by simp[ine,ha]),if_pos ha]
section
variable {ρ:Type}
def Ik {α σ:Type} (l:List α) (g:Nat→σ) (r:Option ρ) {f:σ×Int→(σ×Int→Option ρ)→Option ρ} {s0:σ} (P:Nat→Prop) (h0:g 0=s0) (hP:P 0)
 (h:∀(i:Nat) (a:α),i<l.length→l[i]?=some a→P i→∀kn,f (g i,i) kn=r∨(P (i+1)∧f (g i,i) kn=kn (g (i+1),(i:Int)+1)))
 (hn:P l.length→∀kn,f (g l.length,l.length) kn=r):Í f (s0,0)=r:=by
 subst h0;refine AG (F:=fun _=>r) (fun x=>∃i:Nat,i≤l.length∧x=(g i,(i:Int))∧P i) (fun x=>l.length-x.2.toNat) (fun x hx kn hk=>?_) ⟨0,dR _,rfl,hP⟩;obtain⟨i,hi,rfl,hp⟩:=hx;rcases df i l.length with hlt|hge
 ·rcases h i _ hlt (cF hlt) hp kn with h1|⟨h1,h2⟩
  ·exact h1
  ·rw[h2,hk _ ⟨i+1,hlt,by simp,h1⟩ (by simp; omega)]
 ·have:i=l.length:=by omega
  subst this;exact hn hp kn
def agm {l:List Int} {f:Int→(Int→Option ρ)→Option ρ} {K k1:Option ρ} (h:∀(i:Nat) (a b:Int),l[i]?=some a→l[i+1]?=some b→∀kn,f ((i:Int)+1) kn=if b≤a then K else kn ((i:Int)+1+1))
 (hn:∀n:Nat,l.length≤n→∀kn,f n kn=k1):Í f 1=if l.Pairwise (·<·) then k1 else K:=by
 have hb:=KP (fun x:Int=>x) l;refine đ (fun x=>∃i:Nat,x=(i:Int)+1∧∀j a,j≤i→l[j]?=some a→qN (fun x=>x) l j a=false) (fun x=>l.length-x.toNat) ?_ ⟨0,rfl,fun j a hj _=>?_⟩
 ·rintro x ⟨i,rfl,hi⟩;rcases df (i+1) l.length with hlt|hge
  ·have ha:l[i]?=some l[i]:=cF (by omega);have hc:l[i+1]?=some l[i+1]:=cF hlt
   by_cases hle:l[i+1]≤l[i]
   ·refine .inl fun kn=>?_;rw[h i _ _ ha hc,if_pos hle,if_neg];intro hp;have:=hb.2 hp (i+1) _ hc;simp[qN,ha,hle] at this
   ·refine .inr ⟨(i:Int)+1+1,⟨i+1,by simp,fun j a hj hja=>?_⟩,by omega,fun kn=>by rw[h i _ _ ha hc,if_neg hle]⟩;rcases df i j with h1|h1
    ·have:j=i+1:=by omega
     subst this;rw[hc] at hja; cases hja;simp[qN,ha]; omega
    ·exact hi j a h1 hja
  ·refine .inl fun kn=>?_;have:=hn (i+1) hge kn;simp only[Int.natCast_add,Int.cast_ofNat_Int] at this;rw[this,if_pos];refine hb.1 fun j a hj=>hi j a ?_ hj;have:=(cI.1 hj).1;omega
 ·have:j=0:=by omega
  subst this; simp[qN]
end
def mixE (b:ò) (l:List Mx) (i:Nat) (x:Mx):Int :=
 if !(inP x.1 0 19999&&inP x.2.length 2 5) then 1 else
 if ¬x.2.Pairwise (·<·) then 1 else
 if x.2.any (fun g=>(ç b g).isNone) then 5 else
 if x.2.any (fun g=>I6 b g x.1 != 0) then 4 else
 if qN (fun y=>y.1) l i x then 6 else
 if x.2.any (fun g=>(nY b g x.1).isSome||(nY b g (x.1+1)).isSome) then 9 else 0
def YS:Nat→Nat
 |0=>1
 |n+1=>YS n*(n+1)
def B4:List Mx→Nat
 |[]=>1
 |x::r=>YS x.2.length*B4 r
def PY:∀{l:List Mx} {i:Nat} {x:Mx},l[i]?=some x→B4 (l.take (i+1))=B4 (l.take i)*YS x.2.length
 |[],_,_,h=>by simp at h
 |y::l,0,x,h=>by simp at h; subst h; simp[B4]
 |y::l,i+1,x,h=>by
  simp only[gb] at h;simp only[List.take_succ_cons,B4,PY h,Nat.mul_assoc]
def aev:∀{n:Nat},n≤5→YS n≤120
 |0,_|1,_|2,_|3,_|4,_|5,_=>by decide
 |n+6,h=>by omega
def ZM:∀{l:List Mx} {n:Nat},l.length≤n→(∀x∈l,x.2.length≤5)→B4 l≤120 ^ n
 |[],n,_,_=>Nat.one_le_pow _ _ (by decide)
 |x::l,0,h,_=>by simp at h
 |x::l,n+1,h,hl=>by
  have h1:=ZM (l:=l) (n:=n) (by simpa using h) fun y hy=>hl y (di _ hy);have h2:=aev (hl x (by simp));rw[B4,Nat.pow_succ,Nat.mul_comm];exact fW h1 h2
def Qa (b:ò) (l:List Mx):Option Int:=Ŭ (fun i x=>Xm (mixE b l i x)) 0 l
def ζ (m:Ū):Int :=
 if ě m.1≠0 then ě m.1 else if 4<m.2.length then 2 else match Qa m.1 m.2 with
 |some e=>e
 |none=>if 150<B4 m.2 then 2 else 0
def LD (l:List ï):List (Int×Int):=l.foldl (fun m g=>Lw (k:=tI) (v:=tI) g.1 g.2.1 m) []
def Qc (x y n:Int):∀m:List (Int×Int),nS (k:=tI) (v:=tI) x (Lw (k:=tI) (v:=tI) y n m)=if x=y then some n else nS (k:=tI) (v:=tI) x m
 |[]=>by
  unfold Lw nS Υ nS
  by_cases h:x=y<;>simp[h]
 |e::m=>by
  unfold Lw
  by_cases h:y=e.1
  ·have:Υ tI y e.1=true:=by simp[Υ,h]
   rw[this];simp only;unfold nS
   by_cases hx:x=y
   ·subst hx; simp[Υ]
   ·have:Υ tI x y=false:=by simp[Υ,hx]
    have h2:Υ tI x e.1=false:=by simp[Υ,←h,hx]
    rw[this,if_neg hx];simp only[h2]
  ·have:Υ tI y e.1=false:=by simp[Υ,h]
   rw[this];simp only;unfold nS
   by_cases hx:x=e.1
   ·subst hx;rw[if_neg (fun e=>h e.symm)];simp[Υ]
   ·have h2:Υ tI x e.1=false:=by simp[Υ,hx]
    rw[h2];exact Qc x y n m
def abz (x:Int) (l:List ï):nS (k:=tI) (v:=tI) x (LD l)=(l.reverse.find? fun g=>g.1==x).map fun g=>g.2.1:=by
 have key:∀r:List ï,nS (k:=tI) (v:=tI) x (LD r.reverse)=(r.find? fun g=>g.1==x).map fun g=>g.2.1:=by
  intro r
  induction r with
  |nil=>rfl
  |cons g r ih =>
   rw[List.reverse_cons,LD,List.foldl_append];simp only[gg,List.foldl_nil];rw[Qc,fw]
   by_cases h:x=g.1
   ·subst h; simp
   ·have:(g.1==x)=false:=by simp; exact fun e=>h e.symm
    rw[if_neg h,this];exact ih
 have:=key l.reverse
 rwa [List.reverse_reverse] at this
def adB {b:ò} (h:b.2.1.Pairwise fun a b=>a.1<b.1) (x:Int):nS (k:=tI) (v:=tI) x (LD b.2.1)=(ç b x).map fun g=>g.2.1:=by
 rw[abz,Jy h]; rfl
def Wi {ρ:Type} {b:ò} (h:b.2.1.Pairwise fun a b=>a.1<b.1) (x:Int) (f:Int→Option ρ) (g:Option ρ):KD (k:=tI) (v:=tI) x (LD b.2.1) f g=match ç b x with|some y=>f y.2.1|none=>g:=by
 unfold KD;rw[adB h]
 cases ç b x<;>rfl
section
variable {ρ:Type} {b:ò}
def mix_L0 {l:List Int} (hl:l.length≤1000) (k0:Int→Option ρ) (k1:Unit→Option ρ):Í (fun(v:Int) kk=>pm l v (fun u=>kk u) k0 k1) 1=if l.Pairwise (·<·) then k1 () else k0 1:=by
 refine agm (fun i a c ha hc kn=>?_) (fun n hn kn=>?_)
 ·have hi:=(List.getElem?_eq_some_iff.1 hc).1;unfold pm
  have e:((i:Int)+1)=((i+1:Nat):Int):=by omega
  rw[e,Õ hi,È hc,Ð (by omega) (by omega),←e,Int.add_sub_cancel,È ha,Ķ,Ð (by omega) (by omega)];simp
 ·unfold pm;rw[Ò (by simp[ilt,Ý]; omega)]
def mix_L1 (hn:b.2.1.length≤1000) (k0:List (Int×Int)→Option ρ):Í (fun(v:Int×List (Int×Int)) kk=>pl b.2.1 (à b.2.1) v.1 v.2 (fun u v=>kk (u,v)) k0) ((0:Int),[])=k0 (LD b.2.1):=by
 refine ĵ b.2.1 (fun i=>LD (b.2.1.take i)) _ rfl (fun i g hi hg kn=>?_) (fun kn=>?_)
 ·try dsimp only
  unfold pl;rw[Õ hi,È hg,Î hi (by omega)];congr 2;rw[take_succ hg,LD,LD,List.foldl_append];rfl
 ·try dsimp only
  unfold pl;rw[â,List.take_length]
def mix_L2 (hi:b.2.1.Pairwise fun a b=>a.1<b.1) {l:List Int} (hl:l.length≤1000) (X Y Z:Option ρ):Í (fun(v:Int) kk=>pk l (à l) (LD b.2.1) v (fun u=>kk u) (fun z=>ifb (ige z (0:Int)) X Y) (fun _=>Z)) 0=if l.any (fun g=>(ç b g).isNone) then X else Z:=by
 refine ks l _ (fun z=>ifb (ige z (0:Int)) X Y) X Z (fun j=>Ü (by simp[ige]) _ _) (fun i a hia ha kn=>?_) (fun kn=>?_)
 ·unfold pk;rw[Õ hia,È ha,Wi hi,Î hia (by omega)]
  cases ç b a<;>rfl
 ·unfold pk;rw[â]
def mix_L3 (hi:b.2.1.Pairwise fun a b=>a.1<b.1) {l:List Int} (hl:l.length≤1000) (hk:∀x∈l,∃g,ç b x=some g) (d:Int) (X Y Z:Option ρ):Í (fun(v:Int) kk=>mO l (à l) d (LD b.2.1) v (fun u=>kk u) (fun z=>ifb (ige z (0:Int)) X Y) (fun _=>Z)) 0=if l.any (fun g=>I6 b g d != 0) then X else Z:=by
 refine ks l _ (fun z=>ifb (ige z (0:Int)) X Y) X Z (fun j=>Ü (by simp[ige]) _ _) (fun i a hia ha kn=>?_) (fun kn=>?_)
 ·unfold mO;rw[Õ hia,È ha,Wi hi,Î hia (by omega)];obtain⟨g,hg⟩:=hk a (List.mem_of_getElem? ha);unfold I6;rw[hg];dsimp only;rw[Ķ]
  by_cases h:d<g.2.1<;>simp[ilt,h]
 ·unfold mO;rw[â]
def mix_L4 (h:Ő b) {l:List Int} (hl:l.length≤1000) (hk:∀x∈l,∃g,ç b x=some g) {d:Int} (hd:0≤d∧d<20000) (X Y Z:Option ρ):Í (fun(v:Int) kk=>Ş l (à l) b.1.1 b.1.2 b.2.1 b.2.2.1 b.2.2.2.1 b.2.2.2.2.1 b.2.2.2.2.2 d v (fun u=>kk u) (fun z=>ifb (ige z (0:Int)) X Y) (fun _=>Z)) 0=if l.any (fun g=>(nY b g d).isSome||(nY b g (d+1)).isSome) then X else Z:=by
 refine ks l _ (fun z=>ifb (ige z (0:Int)) X Y) X Z (fun j=>Ü (by simp[ige]) _ _) (fun i a hia ha kn=>?_) (fun kn=>?_)
 ·unfold Ş;obtain⟨g,hg⟩:=hk a (List.mem_of_getElem? ha)
  have hw:∀e,0≤e→e≤20000→BL ((b.1.1,b.1.2),b.2.1,b.2.2.1,b.2.2.2.1,b.2.2.2.2.1,b.2.2.2.2.2) a e=some ((nY b a e).isSome,0):=fun e h0 h1=>by
   rw[show(((b.1.1,b.1.2),b.2.1,b.2.2.1,b.2.2.2.1,b.2.2.2.2.1,b.2.2.2.2.2):ò)=b from rfl,ajc ⟨h.size,fun g hg=>by have:=(h.gaugeR hg).2.1; unfold I64; omega⟩]
   have:uC b a [e]=0:=by
    unfold uC;rw[if_neg (by simp[(ė b).2 h]),if_neg (by simp[GW,inP,h0,h1]),ov h.ids,hg]; rfl
   unfold ajd;rw[if_neg (by simp[this])]
  rw[Õ hia,È ha,hw d hd.1 (by omega),À,Ð (by omega) (by omega),hw (d+1) (by omega) (by omega),À,Î hia (by omega)];dsimp only
  cases(nY b a d).isSome<;>cases(nY b a (d+1)).isSome<;>rfl
 ·unfold Ş;rw[â]
end
def agv {b:ò} (h:Ő b) {l:List Mx} {i:Nat} {x:Mx} (hx:l[i]?=some x) (hn:i≤1000):GN b l i=some (mixE b l i x):=by
 unfold GN L4 mixE;rw[È hx]
 by_cases h1:inP x.1 0 19999=true∧inP (x.2.length:Int) 2 5=true
 ·obtain⟨h1,h2⟩:=h1;rw[if_neg (by simp[h1,h2])];simp only[inP,cH,decide_eq_true_eq] at h1 h2
  have hl:x.2.length≤1000:=by omega
  rw[Ò (by simp[ilt]; omega),Ò (by simp[ige]; omega),Ò (by simp[ilt,Ý]; omega),Ò (by simp[igt,Ý]; omega),mix_L0 hl]
  by_cases h3:x.2.Pairwise (·<·)
  ·rw[if_pos h3,if_neg (by simpa using h3)]
   try dsimp only
   rw[mix_L1 (by have:=h.nG; omega),mix_L2 h.ids hl]
   by_cases h4:(x.2.any fun g=>(ç b g).isNone)=true
   ·rw[if_pos h4,if_pos h4]
   ·have hk:∀y∈x.2,∃g,ç b y=some g:=fun y hy=>by
     simp only[du,not_exists,not_and,Option.isNone_iff_eq_none] at h4;exact Option.ne_none_iff_exists'.1 (h4 y hy)
    rw[if_neg h4,if_neg h4,mix_L3 h.ids hl hk]
    by_cases h5:(x.2.any fun g=>I6 b g x.1 != 0)=true
    ·rw[if_pos h5,if_pos h5]
    ·rw[if_neg h5,if_neg h5,mix_L4 h hl hk (by omega)]
     cases i with
     |zero =>
      rw[Ò (by simp[igt]),if_neg (show ¬qN (fun y:Mx=>y.1) l 0 x=true by simp[qN])]
      split<;>rfl
     |succ i =>
      obtain⟨hi,_⟩:=cI.1 hx;have hy:l[i]?=some l[i]:=cF (by omega)
      have e:((i+1:Nat):Int)-1=i:=by omega
      rw[Ü (by simp[igt]),Ð (by omega) (by omega),e,È hy,Ķ];unfold qN;simp only[Nat.add_sub_cancel,hy,Option.any_some,Nat.succ_pos,decide_true,Bool.true_and,ile,decide_eq_true_eq]
      split
      ·rfl
      ·split<;>rfl
  ·rw[if_neg h3,if_pos h3]
 ·rw[if_pos (by simp only[ee]; cases h2:inP x.1 0 19999<;>cases h3:inP (x.2.length:Int) 2 5<;>simp_all)]
  simp only[inP,cH,decide_eq_true_eq,not_and,Int.not_le] at h1;simp only[Ķ,ilt,ige,igt,Ý,decide_eq_true_eq]
  split
  ·rfl
  split
  ·rfl
  split
  ·rfl
  rw[if_pos (by have:=h1 (by omega); omega)]
def Z4 {b:ò} {l:List Mx} {i:Nat} {x:Mx} (h:mixE b l i x=0):x.2.length≤5:=by
 unfold mixE at h
 split at h
 ·cases h
 ·rename_i h1;simp[inP] at h1;omega
def agG {n v:Nat} (hn:n≤5) (hv:v≤1000000000) {ρ:Type} (k0:Int→Option ρ):Í (fun(u:Int×Int) kk=>pn (abw n) u.1 u.2 (fun a b=>kk (a,b)) k0) ((v:Int),(0:Int))=k0 ((v*YS n:Nat):Int):=by
 refine Ik (List.range n) (fun i=>((v*YS i:Nat):Int)) _ (fun _=>True) (by simp[YS]) trivial (fun i a hi ha _ kn=>.inr ⟨trivial,?_⟩) (fun _ kn=>?_)
 ·rw[fS] at hi
  try dsimp only
  unfold pn;have hf:=aev (n:=i) (by omega);have hb:v*YS i≤1000000000*120:=Nat.mul_le_mul hv hf;have h2:v*YS i*(i+1)≤1000000000*120*6:=Nat.mul_le_mul hb (by omega)
  have e:((v*YS i:Nat):Int)*((i:Int)+1)=((v*YS i*(i+1):Nat):Int):=by simp
  rw[ahC hi,Ð (by omega) (by omega),e,Ð (by omega) (by omega),Ð (by omega) (by omega),YS,Nat.mul_assoc]
 ·rw[fS]
  try dsimp only
  unfold pn;rw[â]
def adA {b:ò} {l:List Mx} {i:Nat} {x:Mx} (hx:l[i]?=some x) (hp:∀j y,j<i→l[j]?=some y→mixE b l j y=0) (he:mixE b l i x≠0):Qa b l=some (mixE b l i x):=by
 have key:∀(m:List Mx) (k:Nat),l.drop k=m→k≤i→Ŭ (fun i x=>Xm (mixE b l i x)) k m=some (mixE b l i x):=by
  intro m
  induction m with
  |nil =>
   intro k hk hki;have:=List.drop_eq_nil_iff.1 hk;have:=(cI.1 hx).1;omega
  |cons y m ih =>
   intro k hk hki
   have hy:l[k]?=some y:=by
    have:(l.drop k)[0]?=some y:=by rw[hk]; rfl
    simpa using this
   rw[Ŭ];rcases df k i with hlt|hge
   ·rw[hp k y hlt hy];simp only[Xm,if_true];refine ih (k+1) ?_ hlt;rw[←List.tail_drop,hk]; rfl
   ·have:k=i:=by omega
    subst this;rw[hx] at hy; cases hy;simp[Xm,he]
 exact key l 0 rfl (dR _)
def Lx {b:ò} {l:List Mx} (hp:∀j y,l[j]?=some y→mixE b l j y=0):Qa b l=none:=by
 rw[Qa,oP];intro j y hy;rw[dC,hp j y hy]; rfl
def oZ {m:Ū} (hs:In m.1) (hn:m.2.length≤1000):Ω m=some (ζ m):=by
 unfold Ω FA ζ;rw[qO hs.size hs.num,À]
 by_cases hc:ě m.1=0
 ·have hg:=(ė _).1 hc;rw[Ò (by simp[ine,hc]),if_neg (by simp[hc])]
  by_cases h4:4<m.2.length
  ·rw[Ü (by simp[igt,Ý]; omega),if_pos h4]
  ·rw[Ò (by simp[igt,Ý]; omega),if_neg h4];refine Ik m.2 (fun i=>((B4 (m.2.take i):Nat):Int)) _ (fun i=>∀j y,j<i→m.2[j]?=some y→mixE m.1 m.2 j y=0) (by simp[B4]) (fun j y h _=>by omega) (fun i x hi hx hp kn=>?_) (fun hp kn=>?_)
   ·try dsimp only
    unfold tQ;rw[Õ hi,È hx,show(((m.1.1.1,m.1.1.2),m.1.2.1,m.1.2.2.1,m.1.2.2.2.1,m.1.2.2.2.2.1,m.1.2.2.2.2.2):ò)=m.1 from rfl,agv hg hx (by omega),À]
    by_cases he:mixE m.1 m.2 i x=0
    ·rw[Ò (by simp[ine,he])]
     have h5:∀y∈m.2.take i,y.2.length≤5:=fun y hy=>by
      obtain⟨j,hj,rfl⟩:=cS.1 hy;rw[cZ] at hj;rw[fg];exact Z4 (hp j _ (by omega) (cF (by omega)))
     have hb:=ZM (l:=m.2.take i) (n:=4) (by rw[cZ]; omega) h5
     have hb2:(120:Nat) ^ 4=207360000:=by decide
     refine .inr ⟨fun j y hj hy=>?_,?_⟩
     ·rcases df j i with h|h
      ·exact hp j y h hy
      ·have:j=i:=by omega
       subst this;rw[hx] at hy; cases hy;exact he
     ·rw[agG (Z4 he) (by omega),Î hi (by omega),PY hx]
    ·refine .inl ?_;rw[Ü (by simp[ine,he]),adA hx hp he]
   ·try dsimp only
    unfold tQ;rw[â,Lx fun j y hy=>hp j y (List.getElem?_eq_some_iff.1 hy).1 hy,List.take_length];dsimp only;rw[Ķ];simp only[igt,decide_eq_true_eq]
    by_cases h:150<B4 m.2
    ·rw[if_pos (by omega),if_pos h]
    ·rw[if_neg (by omega),if_neg h]
 ·rw[Ü (by simp[ine,hc]),if_pos hc]
structure MixOk (b:ò) (x:Mx):Prop where
 day:0≤x.1∧x.1<20000
 len:2≤x.2.length∧x.2.length≤5
 asc:x.2.Pairwise (·<·)
 known:∀l∈x.2,∃g,ç b l=some g∧g.2.1≤x.1
 home:∀l∈x.2,nY b l x.1=none∧nY b l (x.1+1)=none
def UZ {b:ò} {l:List Mx} {i:Nat} {x:Mx} (h:mixE b l i x=0):MixOk b x∧qN (fun y=>y.1) l i x=false:=by
 unfold mixE at h
 split at h
 ·cases h
 rename_i h1
 split at h
 ·cases h
 rename_i h2
 split at h
 ·cases h
 rename_i h3
 split at h
 ·cases h
 rename_i h4
 split at h
 ·cases h
 rename_i h5
 split at h
 ·cases h
 rename_i h6;simp only[inP,Bool.not_eq_true',Bool.and_eq_false_iff,not_or,Bool.not_eq_false,decide_eq_false_iff_not,Int.not_le,Bool.and_eq_true,decide_eq_true_eq] at h1;simp only[List.any_eq_true,not_exists,not_and,Option.isNone_iff_eq_none] at h3;simp only[List.any_eq_true,not_exists,not_and,bne_iff_ne,ne_eq,Decidable.not_not] at h4;simp only[List.any_eq_true,not_exists,not_and,Bool.or_eq_true,not_or,Option.isSome_iff_ne_none,ne_eq,Decidable.not_not] at h6;refine⟨⟨by omega,by omega,Decidable.not_not.1 h2,fun y hy=>?_,h6⟩,by simpa using h5⟩;obtain⟨g,hg⟩:=Option.ne_none_iff_exists'.1 (h3 y hy);refine⟨g,hg,?_⟩;have:=h4 y hy;unfold I6 at this;rw[hg] at this;dsimp only at this
 split at this
 ·cases this
 ·omega
structure MOk (m:Ū):Prop where
 good:Ő m.1
 n4:m.2.length≤4
 mixE:∀i x,m.2[i]?=some x→mixE m.1 m.2 i x=0
 prod:B4 m.2≤150
def Ι (m:Ū):ζ m=0↔MOk m:=by
 unfold ζ;constructor
 ·intro h
  split at h
  ·rename_i h1; exact absurd h h1
  rename_i h1
  split at h
  ·cases h
  rename_i h2
  cases hm:Qa m.1 m.2 with
  |some e =>
   rw[hm] at h;dsimp only at h;rw[Qa] at hm
   have key:∀(l:List Mx) (k:Nat) (e:Int),Ŭ (fun i x=>Xm (mixE m.1 m.2 i x)) k l=some e→e≠0:=by
    intro l
    induction l with
    |nil=>intro k e h; cases h
    |cons y l ih =>
     intro k e h;rw[Ŭ] at h
     by_cases hz:mixE m.1 m.2 k y=0
     ·rw[hz] at h;exact ih (k+1) e h
     ·simp only[Xm,if_neg hz,Option.some.injEq] at h;rw[←h]; exact hz
   exact absurd h (key _ _ _ hm)
  |none =>
   rw[hm] at h;dsimp only at h
   split at h
   ·cases h
   rename_i h3;refine⟨(ė _).1 (Decidable.not_not.1 h1),by omega,fun i x hx=>?_,by omega⟩;have:=(oP.1 hm) i x hx;rw[Nat.zero_add] at this;unfold Xm at this
   split at this
   ·assumption
   ·cases this
 ·intro h;rw[if_neg (by simp[(ė _).2 h.good]),if_neg (by have:=h.n4; omega),Lx h.mixE];dsimp only;rw[if_neg (by have:=h.prod; omega)]
section
variable {m:Ū}
def MOk.mix (h:MOk m) {x:Mx} (hx:x∈m.2):MixOk m.1 x:=by
 obtain⟨i,hi,rfl⟩:=cS.1 hx;exact(UZ (h.mixE i _ (cF hi))).1
def MOk.days (h:MOk m):m.2.Pairwise fun a b=>a.1<b.1:=(KP (fun y:Mx=>y.1) m.2).1 fun i x hx=>(UZ (h.mixE i x hx)).2
def MOk.len5 (h:MOk m):∀x∈m.2,x.2.length≤5:=fun x hx=>(h.mix hx).len.2
def MOk.in_ (h:MOk m):In m.1:=⟨h.good.size,fun g hg=>by have:=(h.good.gaugeR hg).2.1; unfold I64; omega⟩
end
def ZQ {l:List Int} {i:Nat} (hi:i<l.length):(l[i]::(l.take i++l.drop (i+1))).Perm l:=by
 have h:l=l.take i++l[i]::l.drop (i+1):=by rw[←dF hi,dQ]
 exact List.Perm.trans (List.perm_middle.symm) (by rw[←h])
def Ku:∀{n:Nat} {l x:List Int},l.length=n→(x∈Kv n l↔x.Perm l)
 |0,l,x,h=>by
  have:l=[]:=cV.1 h;subst this;simp[Kv]
 |n+1,l,x,h=>by
  rw[Kv,if_neg (by omega)];simp only[dv,gn,dt];constructor
  ·rintro⟨i,hi,y,hy,rfl⟩;have hy:=(Ku (n:=n) (by simp; omega)).1 hy;rw[eh,cF hi];exact(hy.cons _).trans (ZQ hi)
  ·intro hp
   cases x with
   |nil=>have:=hp.length_eq; simp at this; omega
   |cons a x =>
    have ha:a∈l:=hp.subset (by simp);obtain⟨i,hi,rfl⟩:=cS.1 ha;refine⟨i,hi,x,(Ku (n:=n) (by simp; omega)).2 ?_,by rw[eh,cF hi]; rfl⟩;exact List.Perm.cons_inv (hp.trans (ZQ hi).symm)
def Tz {α β:Type} (f:α→List β) (n:Nat):∀l:List α,(∀a∈l,(f a).length=n)→(l.flatMap f).length=l.length*n
 |[],_=>by simp
 |a::l,h=>by
  rw[dG,cJ,h a (by simp),Tz f n l fun b hb=>h b (di _ hb),cW,Nat.succ_mul]; omega
def Z0:∀{n:Nat} {l:List Int},l.length=n→(Kv n l).length=YS n
 |0,_,_=>rfl
 |n+1,l,h=>by
  rw[Kv,if_neg (by omega),Tz _ (YS n) _ fun i hi=>by rw[dz]; exact Z0 (by simp at hi ⊢; omega),fS,YS,h,Nat.mul_comm]
def GZ:∀{ms:List Mx} {w:Way},w∈lT ms↔Į ms w
 |[],[]=>by simp[lT,Į]
 |[],_::_=>by simp[lT,Į]
 |m::ms,[]=>by simp[lT,Į]
 |m::ms,l::ls=>by
  simp only[lT,dv,dt,Į];constructor
  ·rintro⟨x,hx,y,hy,e⟩;cases e;exact⟨(Ku rfl).1 hx,GZ.1 hy⟩
  ·intro⟨h1,h2⟩;exact⟨l,(Ku rfl).2 h1,ls,GZ.2 h2,rfl⟩
def NN:∀ms:List Mx,(lT ms).length=B4 ms
 |[]=>rfl
 |m::ms=>by rw[lT,Tz _ (B4 ms) _ fun x _=>by rw[dz,NN],Z0 rfl,B4]
def sE (ms:List Mx):List Way:=ő (KS ms) (lT ms)
def abO {α:Type} {k k':α→Int} {x:α} {l:List α} (hx:k x=k' x) (h:∀y∈l,k y=k' y):abP k x l=abP k' x l:=by
 induction l with
 |nil=>rfl
 |cons y l ih =>
  unfold abP;rw[hx,h y (by simp),ih fun z hz=>h z (List.mem_cons_of_mem _ hz)]
def Nl {α:Type} {k k':α→Int}:∀{l:List α},(∀y∈l,k y=k' y)→ő k l=ő k' l
 |[],_=>rfl
 |x::l,h=>by
  have hl:=Nl fun y hy=>h y (di x hy);show abP k x (ő k l)=abP k' x (ő k' l);rw[hl];exact abO (h x (by simp)) fun y hy=>h y (di _ ((Ť (key:=k') l).mem.1 hy))
def vv {ms:List Mx} {w:Way}:w∈sE ms↔Į ms w:=by
 rw[sE,(Ť (lT ms)).mem,GZ]
def acx (ms:List Mx):(sE ms).length=B4 ms:=by rw[sE,(Ť (lT ms)).length,NN]
section
variable {m:Ū} {ρ:Type}
def MOk.wgt (h:MOk m) {w:Way} (hw:Į m.2 w):Ĺ m w=some (KS m.2 w) :=
 acv hw (by have:=h.n4; omega) fun x hx=>by have:=h.len5 x hx; omega
def KJ {α:Type} {f:List α→α→(List α→Option ρ)→Option ρ} (h:∀v y kn,v.length≤1000000→f v y kn=kn (v++[y])):∀{xs:List α} {v:List α} {K:List α→Option ρ},v.length+xs.length≤1000000→AQ f xs v K=K (v++xs)
 |[],v,K,_=>by simp[AQ]
 |x::xs,v,K,hl=>by
  simp only[cW] at hl;rw[AQ,h v x _ (by omega),KJ h (by simp; omega)]; simp
def aeP (h:MOk m):oM m.2=some (lT m.2):=by
 unfold oM;rw[ÿ];simp only[Bool.and_eq_true,decide_eq_true_eq,List.all_eq_true];exact⟨by have:=h.n4; omega,fun x hx=>by have:=h.len5 x hx; omega⟩
def TJ (h:MOk m):(lT m.2).length≤150:=by rw[NN]; exact h.prod
def Uo (h:MOk m):ń (lT m.2) (à (lT m.2)) m=some (sE m.2,m):=by
 have h2:∀w∈lT m.2,Ĺ m w=some (KS m.2 w):=fun w hw=>h.wgt (GZ.1 hw)
 have h3:∀w∈lT m.2,ĝ m w=KS m.2 w:=fun w hw=>by unfold ĝ; rw[h2 w hw]; rfl
 rw[Ý,acR (fun w hw=>by rw[h2 w hw,h3 w hw]) (by have:=TJ h; omega),Nl h3]; rfl
def acw (h:MOk m):GI m=some (sE m.2):=by
 unfold GI RE;have hl:=TJ h;rw[aeP h,À,KJ (fun v y kn hv=>by unfold Dz; rw[ÿ (Ú (by simp; omega))]) (by simp; omega),List.nil_append,Uo h];rfl
end
def Bz {ρ:Type} (n:Nat) (p:Nat→Bool) (K0 K1:Option ρ) {f:Int→(Int→Option ρ)→Option ρ} (h:∀i:Nat,i<n→∀kn,f i kn=if p i then kn ((i:Int)+1) else K0) (hn:∀kn,f n kn=K1):Í f 0=if (List.range n).all p then K1 else K0:=by
 have:=ks (List.range n) (fun i=>!p i) (fun _=>K0) K0 K1 (f:=f) (fun _=>rfl) (fun i a hi ha kn=>by
  obtain⟨_,rfl⟩:=cI.1 ha;rw[fS] at hi;rw[h i hi kn,List.getElem_range]
  cases p i<;>rfl) (fun kn=>by rw[fS]; exact hn kn)
 rw[this]
 have e:(List.range n).any (fun i=>!p i)=!(List.range n).all p:=by rw[List.all_eq_not_any_not]; simp
 rw[e]
 cases(List.range n).all p<;>rfl
def un:List Mx→Way→Bool
 |[],[]=>true
 |m::ms,l::ls=>decide (lR l=m.2)&&un ms ls
 |_,_=>false
def Qw:∀{ms:List Mx} {w:Way},(∀x∈ms,x.2.Pairwise (·<·))→(un ms w=true↔Į ms w)
 |[],[],_=>by simp[un,Į]
 |[],_::_,_=>by simp[un,Į]
 |_::_,[],_=>by simp[un,Į]
 |m::ms,l::ls,h=>by
  rw[un,Į,cH,decide_eq_true_eq,Qw fun x hx=>h x (di _ hx)];have hm:=h m (by simp);refine and_congr ⟨fun e=>by rw[←e]; exact(ľ l).symm,fun e=>?_⟩ Iff.rfl;exact gN (fun a b _ _ h1 h2=>Int.le_antisymm h1 h2) (ip l) (hm.imp fun h=>Int.le_of_lt h) ((ľ l).trans e)
def ad8 {ms:List Mx} {w:Way} (hl:w.length=ms.length):un ms w=(List.range ms.length).all fun i=>match ms[i]?,w[i]? with|some m,some l=>decide (lR l=m.2)|_,_=>false:=by
 induction ms generalizing w with
 |nil =>
  have:w=[]:=cV.1 hl;subst this; rfl
 |cons m ms ih =>
  cases w with
  |nil=>simp at hl
  |cons l w =>
   rw[un,ih (by simpa using hl),cW,List.range_succ_eq_map,fC,List.all_map];rfl
def row_eq {l m:List Int} (hl:l.length=m.length) (hm:m.length≤5):(l.getD 0 0=m.getD 0 0∧l.getD 1 0=m.getD 1 0∧l.getD 2 0=m.getD 2 0∧l.getD 3 0=m.getD 3 0∧l.getD 4 0=m.getD 4 0)↔l=m:=by
 constructor
 ·intro⟨h0,h1,h2,h3,h4⟩;refine List.ext_getElem hl fun i hi hi'=>?_
  have e:∀k:Nat,l.getD k 0=m.getD k 0→k=i→l[i]=m[i]:=fun k hk e=>by
   subst e;simpa[eh,cF hi,cF hi'] using hk
  have:i=0∨i=1∨i=2∨i=3∨i=4:=by omega
  rcases this with h|h|h|h|h
  ·exact e 0 h0 h.symm
  ·exact e 1 h1 h.symm
  ·exact e 2 h2 h.symm
  ·exact e 3 h3 h.symm
  ·exact e 4 h4 h.symm
 ·rintro rfl; simp
def agu {m:Ū} (h:MOk m) {w:Way} (hw:∀l∈w,l.length≤100000):GM m w=some (un m.2 w):=by
 unfold GM LV;have hn:=h.n4
 by_cases hl:w.length=m.2.length
 ·rw[Ò (by simp[ine,Ý]; omega),ad8 hl];have hp:∀i,i<m.2.length→∃x l,m.2[i]?=some x∧w[i]?=some l:=fun i hi=>⟨_,_,cF hi,cF (by omega)⟩;refine eW (Bz m.2.length (fun i=>match m.2[i]?,w[i]? with|some m,some l=>decide (lR l=m.2)|_,_=>false) (some false) (some true) (fun i hi kn=>?_) (fun kn=>?_)) ?_
  ·obtain⟨x,l,hx,hwl⟩:=hp i hi
   try dsimp only
   unfold tE;have hx5:=h.len5 x (List.mem_of_getElem? hx);have hl1:=hw l (List.mem_of_getElem? hwl);rw[Õ (by omega),È hwl,È hx,hx,hwl];dsimp only
   by_cases hll:l.length=x.2.length
   ·rw[Ò (by simp[ine,Ý]; omega)];unfold BC;rw[ÿ (Ú (by omega)),À,KJ (fun v y kn hv=>by unfold zQ; rw[ÿ (Ú (by simp; omega))]) (by simp; omega),List.nil_append,ÿ (Ú (by omega))];unfold GJ;rw[À,À,Q9];have hr:=row_eq (l:=lR l) (m:=x.2) (by rw[(ľ l).length_eq]; exact hll) hx5
    by_cases he:lR l=x.2
    ·obtain⟨e0,e1,e2,e3,e4⟩:=hr.2 he;rw[e0,e1,e2,e3,e4,Ò (by simp[A5]),Ð (by omega) (by omega),if_pos (by simpa using he)]
    ·rw[Ü,if_neg (by simpa using he)]
     cases hb:(!((A5 ((lR l).getD 0 0) (x.2.getD 0 0))&&((A5 ((lR l).getD 1 0) (x.2.getD 1 0))&&((A5 ((lR l).getD 2 0) (x.2.getD 2 0))&&((A5 ((lR l).getD 3 0) (x.2.getD 3 0))&&((A5 ((lR l).getD 4 0) (x.2.getD 4 0))&&true)))))) with
     |true=>rfl
     |false =>
      refine absurd (hr.1 ?_) he;simpa[A5] using hb
   ·rw[Ü (by simp[ine,Ý]; omega),if_neg];intro e;simp only[decide_eq_true_eq] at e;have:=(ľ l).length_eq;rw[e] at this;exact hll this.symm
  ·try dsimp only
   unfold tE;rw[Ò (by simp[ilt,Ý]; omega)]
  ·cases(List.range m.2.length).all (fun i=>match m.2[i]?,w[i]? with|some m,some l=>decide (lR l=m.2)|_,_=>false)<;>rfl
 ·rw[Ü (by simp[ine,Ý]; omega)];congr 1
  symm
  clear hw
  have key:∀{ms:List Mx} {w:Way},w.length≠ms.length→un ms w=false:=by
   intro ms
   induction ms with
   |nil=>intro w h; cases w with|nil=>exact absurd rfl h|cons _ _=>rfl
   |cons x ms ih =>
    intro w h
    cases w with
    |nil=>rfl
    |cons l w=>rw[un,ih (by simpa using h),Bool.and_false]
  exact key hl
def yL (m:Ū) (w:Way):Int:=if ζ m≠0 then ζ m else if un m.2 w then 0 else 1
def WV {m:Ū} (hs:In m.1) (hn:m.2.length≤1000) {w:Way} (hw:∀l∈w,l.length≤100000):AW m w=some (yL m w):=by
 unfold AW Ma yL;rw[oZ hs hn,À]
 by_cases hc:ζ m=0
 ·rw[Ò (by simp[ine,hc]),if_neg (by simp[hc]),agu ((Ι m).1 hc) hw,À]
  cases un m.2 w<;>rfl
 ·rw[Ü (by simp[ine,hc]),if_pos hc]
def En {m:Ū} {w:Way}:yL m w=0↔MOk m∧Į m.2 w:=by
 unfold yL
 by_cases hc:ζ m=0
 ·have h:=(Ι m).1 hc;rw[if_neg (by simp[hc])];have:=Qw (w:=w) fun x hx=>(h.mix hx).asc
  cases hi:un m.2 w with
  |true=>simp[this.1 hi,h]
  |false =>
   exact⟨fun e=>absurd (show(1:Int)=0 from e) (by decide),fun e=>absurd (this.2 e.2) (by simp[hi])⟩
 ·rw[if_pos hc];exact⟨fun e=>absurd e hc,fun⟨e,_⟩=>absurd ((Ι m).2 e) hc⟩
section
variable {ρ:Type}
def qC {α β:Type} (l:List α) (g:α→β) (K:List β→Option ρ) {f:Int×List β→(Int×List β→Option ρ)→Option ρ}
 (h:∀(i:Nat) (a:α),i<l.length→l[i]?=some a→∀(v:List β) kn,v.length=i→f (i,v) kn=kn ((i:Int)+1,v++[g a])) (hn:∀(v:List β) kn,f (l.length,v) kn=K v):Í f (0,[])=K (l.map g):=by
 refine ĵ l (fun i=>(l.take i).map g) _ rfl (fun i a hi ha kn=>?_) (fun kn=>?_)
 ·rw[h i a hi ha _ kn (by simp; omega),take_succ ha,eJ]; rfl
 ·rw[hn,fJ]
end
def nV (m:Ū) (w:Way) (d:Int) (l:List Int):List Int:=lR (l.map fun x=>Ň m.2 w x d)
def Xo (m:Ū) (w:Way) (c:Cmp):Cmp:=(c.1,c.2.1,nV m w c.2.1 c.2.2.1,nV m w c.2.1 c.2.2.2.1,c.2.2.2.2)
def trP (m:Ū) (w:Way):ò :=
 (m.1.1,m.1.2.1,m.1.2.2.1.map (fun u=>(Ň m.2 w u.1 u.2,u.2)),m.1.2.2.2.1.map (fun l=>(Ň m.2 w l.1 l.2.1.1,l.2)),m.1.2.2.2.2.1.map (Xo m w),m.1.2.2.2.2.2.map (fun n=>(Ň m.2 w n.1 n.2,n.2)))
section
variable {ρ:Type} {m:Ū} {w:Way}
def MOk.who (h:MOk m) (hw:Į m.2 w) (x d:Int):vr m w x d=some (Ň m.2 w x d) :=
 who_ok hw (by have:=h.n4; omega) (fun y hy=>by have:=h.len5 y hy; omega) x d
def tr_L0 (h:MOk m) (hw:Į m.2 w) (k0:List (Int×Int)→Option ρ):Í (fun(v:Int×List (Int×Int)) kk=>l6 m w m.1.2.2.1 (à m.1.2.2.1) v.1 v.2 (fun a b=>kk (a,b)) k0) ((0:Int),[])=k0 (m.1.2.2.1.map fun u=>(Ň m.2 w u.1 u.2,u.2)):=by
 have hn:=h.good.nU
 refine qC m.1.2.2.1 (fun u:Int×Int=>((Ň m.2 w u.1 u.2,u.2):Int×Int)) k0 (fun i a hi ha v kn hv=>?_) (fun v kn=>?_)<;>(try dsimp only)<;>unfold l6
 ·rw[Õ hi,È ha,h.who hw,À,ÿ (Ú (by simp; omega)),Î hi (by omega)]
 ·rw[â]
def tr_L1 (h:MOk m) (hw:Į m.2 w) (k0:List IX→Option ρ):Í (fun(v:Int×List IX) kk=>l5 m w m.1.2.2.2.1 (à m.1.2.2.2.1) v.1 v.2 (fun a b=>kk (a,b)) k0) ((0:Int),[])=k0 (m.1.2.2.2.1.map fun l=>(Ň m.2 w l.1 l.2.1.1,l.2)):=by
 have hn:=h.good.nL
 refine qC m.1.2.2.2.1 (fun l:IX=>((Ň m.2 w l.1 l.2.1.1,l.2):IX)) k0 (fun i a hi ha v kn hv=>?_) (fun v kn=>?_)<;>(try dsimp only)<;>unfold l5
 ·rw[Õ hi,È ha,h.who hw,À,ÿ (Ú (by simp; omega)),Î hi (by omega)]
 ·rw[â]
def EB (h:MOk m) (hw:Į m.2 w) (d:Int) {l:List Int} (hl:l.length≤1000):j8 l d m w=some (nV m w d l):=by
 unfold j8 rI;rw[qC l (fun x:Int=>(Ň m.2 w x d:Int)) (fun z=>è (ñ z.length) (some (zp z))) (fun i a hi ha v kn hv=>?_) (fun v kn=>?_),ÿ (Ú (by simp; omega)),Q9]; rfl
 ·try dsimp only
  unfold jJ;rw[Õ hi,È ha,h.who hw,À,ÿ (Ú (by simp; omega)),Î hi (by omega)]
 ·try dsimp only
  unfold jJ;rw[â]
def tr_L2 (h:MOk m) (hw:Į m.2 w) (k0:List Cmp→Option ρ):Í (fun(v:Int×List Cmp) kk=>lZ m w m.1.2.2.2.2.1 (à m.1.2.2.2.2.1) v.1 v.2 (fun a b=>kk (a,b)) k0) ((0:Int),[])=k0 (m.1.2.2.2.2.1.map (Xo m w)):=by
 have hn:=h.good.nC
 refine qC m.1.2.2.2.2.1 (Xo m w) k0 (fun i a hi ha v kn hv=>?_) (fun v kn=>?_)<;>(try dsimp only)<;>unfold lZ
 ·obtain⟨p1,p2⟩:=h.good.size.piles a (cO ha);rw[Õ hi,È ha,EB h hw _ p1,À,EB h hw _ p2,À,ÿ (Ú (by simp; omega)),Î hi (by omega)];rfl
 ·rw[â]
def tr_L3 (h:MOk m) (hw:Į m.2 w) (k0:List (Int×Int)→Option ρ):Í (fun(v:Int×List (Int×Int)) kk=>lY m w m.1.2.2.2.2.2 (à m.1.2.2.2.2.2) v.1 v.2 (fun a b=>kk (a,b)) k0) ((0:Int),[])=k0 (m.1.2.2.2.2.2.map fun n=>(Ň m.2 w n.1 n.2,n.2)):=by
 have hn:=h.good.nK
 refine qC m.1.2.2.2.2.2 (fun n:Int×Int=>((Ň m.2 w n.1 n.2,n.2):Int×Int)) k0 (fun i a hi ha v kn hv=>?_) (fun v kn=>?_)<;>(try dsimp only)<;>unfold lY
 ·rw[Õ hi,È ha,h.who hw,À,ÿ (Ú (by simp; omega)),Î hi (by omega)]
 ·rw[â]
def zm (h:MOk m) (hw:Į m.2 w):ky m w=some (trP m w):=by
 have h1:=h.good.nG;unfold ky xx trP;rw[ÿ (Ú (by omega)),tr_L0 h hw,tr_L1 h hw,tr_L2 h hw,tr_L3 h hw]
end
def YN {l:List Int} {x:Int} (h:x∈l):∃k,l.findIdx? (·==x)=some k∧l[k]?=some x:=by
 cases hf:l.findIdx? (·==x) with
 |none =>
  have:=dE.1 hf x h;simp at this
 |some k =>
  obtain⟨hk,he,_⟩:=dg.1 hf;exact⟨k,rfl,by rw[cF hk]; simpa using he⟩
def Tr {l:List Int} {x:Int} (h:x∉l):l.findIdx? (·==x)=none:=by
 rw[dE];intro y hy;simp only[beq_eq_false_iff_ne];exact fun e=>h (e▸hy)
def idx_at {l:List Int} (hn:l.Nodup) {k:Nat} {x:Int} (h:l[k]?=some x):l.findIdx? (·==x)=some k:=by
 obtain⟨j,hj,hx⟩:=YN (cO h);obtain⟨h1,e1⟩:=cI.1 h;obtain⟨h2,e2⟩:=cI.1 hx;rw[hj,(List.getElem_inj hn).1 (e2.trans e1.symm)]
def ZA {d d0:Int} {l k:List Int} (hl:l.Nodup) (hk:k.Nodup) (hp:l.Perm k) (x:Int):stp d (d0,k) l (stp d (d0,l) k x)=x:=by
 unfold stp
 by_cases hd:d0<d
 ·simp only[if_pos hd]
  by_cases hx:x∈k
  ·obtain⟨i,h1,h2⟩:=YN hx;rw[h1];dsimp only
   have hi:i<l.length:=by rw[hp.length_eq]; exact(cI.1 h2).1
   have e:l[i]?=some (l.getD i 0):=by rw[eh,cF hi]; rfl
   rw[idx_at hl e];dsimp only;rw[List.getD_eq_getElem?_getD,h2]; rfl
  ·rw[Tr hx];dsimp only;rw[Tr fun h=>hx (hp.subset h)]
 ·simp only[if_neg hd]
def acN {d:Int} {m:Mx} {l:List Int} (hp:l.Perm m.2) (x:Int):stp d m l x=x∨(m.1<d∧x∈m.2∧stp d m l x∈m.2):=by
 unfold stp
 by_cases hd:m.1<d
 ·simp only[if_pos hd]
  by_cases hx:x∈l
  ·obtain⟨i,h1,h2⟩:=YN hx;rw[h1];dsimp only
   have hi:i<m.2.length:=by rw[←hp.length_eq]; exact(cI.1 h2).1
   exact .inr ⟨hd,hp.subset hx,by rw[eh,cF hi]; exact eN hi⟩
  ·rw[Tr hx];exact .inl rfl
 ·simp only[if_neg hd];exact .inl trivial
def ahB:List Mx→Way→Int→Int→Int
 |m::ms,l::ls,x,d=>ahB ms ls (stp d (m.1,l) m.2 x) d
 |_,_,x,_=>x
def afq {l:List Int} (h:l.Pairwise (·<·)):l.Nodup:=h.imp fun h=>Int.ne_of_lt h
def act:∀{ms:List Mx} {w:Way},Į ms w→(∀x∈ms,x.2.Nodup)→∀x d,Ň ms w (ahB ms w x d) d=x
 |[],[],_,_,x,d=>rfl
 |m::ms,l::ls,h,hn,x,d=>by
  rw[ahB,Ň,act h.2 fun y hy=>hn y (di _ hy)];exact ZA (d0:=m.1) (h.1.nodup_iff.2 (hn m (by simp))) (hn m (by simp)) h.1 x
def YH:∀{ms:List Mx} {w:Way},Į ms w→(∀x∈ms,x.2.Nodup)→∀x d,ahB ms w (Ň ms w x d) d=x
 |[],[],_,_,x,d=>rfl
 |m::ms,l::ls,h,hn,x,d=>by
  rw[ahB,Ň];have:=ZA (d:=d) (d0:=m.1) (l:=m.2) (k:=l) (hn m (by simp)) (h.1.nodup_iff.2 (hn m (by simp))) h.1.symm (Ň ms ls x d);rw[show stp d (m.1,l) m.2 (stp d m l (Ň ms ls x d))=_ from this];exact YH h.2 (fun y hy=>hn y (di _ hy)) x d
def Xr:∀{ms:List Mx} {w:Way} (Q:Int→Prop) {d:Int},Į ms w→(∀m∈ms,m.1<d→∀x∈m.2,Q x)→∀{x:Int},Q x→Q (Ň ms w x d)
 |[],[],Q,d,_,_,x,hx=>hx
 |m::ms,l::ls,Q,d,h,hm,x,hx=>by
  have:=Xr (x:=x) Q h.2 (fun y hy=>hm y (di _ hy)) hx;rw[Ň];rcases acN (d:=d) h.1 (Ň ms ls x d) with e|⟨e1,_,e2⟩
  ·rw[e]; exact this
  ·exact hm m (by simp) e1 _ e2
def Ex:∀{ms:List Mx} {w:Way} {d:Int},Į ms w→∀{x:Int},(∀m∈ms,m.1<d→x∉m.2)→Ň ms w x d=x
 |[],[],d,_,x,_=>rfl
 |m::ms,l::ls,d,h,x,hm=>by
  rw[Ň,Ex h.2 fun y hy=>hm y (di _ hy)];rcases acN (d:=d) h.1 x with e|⟨e1,e2,_⟩
  ·exact e
  ·exact absurd e2 (hm m (by simp) e1)
def T4:∀{ms:List Mx} {w:Way} {d e:Int},Į ms w→ms.Pairwise (fun a b=>a.1<b.1)→d≤e→∀{x:Int},(∀m∈ms,d≤m.1→m.1<e→x∉m.2)→Ň ms w x e=Ň ms w x d
 |[],[],d,e,_,_,_,x,_=>rfl
 |m::ms,l::ls,d,e,h,hs,hde,x,hm=>by
  rw[dA] at hs;rcases gW m.1 d with hlt|hge
  ·rw[Ň,Ň,T4 h.2 hs.2 hde fun y hy=>hm y (di _ hy)]
   have e1:∀y,stp e m l y=stp d m l y:=fun y=>by unfold stp; rw[if_pos hlt,if_pos (by omega)]
   exact e1 _
  ·have e1:Ň (m::ms) (l::ls) x e=x:=Ex h fun y hy hye=>by
    rcases cN.1 hy with rfl|hy'
    ·exact hm y (by simp) hge hye
    ·exact hm y hy (by have:=hs.1 y hy'; omega) hye
   have e2:Ň (m::ms) (l::ls) x d=x:=Ex h fun y hy hyd=>by
    rcases cN.1 hy with rfl|hy'
    ·omega
    ·have:=hs.1 y hy'; omega
   rw[e1,e2]
def vI {b:ò} (hi:b.2.1.Pairwise fun a b=>a.1<b.1) {id day:Int}:ow (ĕ b) id day=0↔∃g,ç b id=some g∧g.2.1≤day:=by
 rw[←XD hi];unfold I6
 cases ç b id with
 |none=>simp
 |some g =>
  dsimp only
  by_cases h:day<g.2.1
  ·rw[if_pos h]; simp; omega
  ·rw[if_neg h]; simp; omega
def Ey {b:ò} (hi:b.2.1.Pairwise fun a b=>a.1<b.1) {id day:Int}:Hg (ĕ b) id day=0↔GW day=true∧∃g,ç b id=some g∧g.2.1≤day:=by
 unfold Hg
 cases GW day with
 |false=>simp
 |true=>simp[vI hi]
def Wg {b:ò} (hi:b.2.1.Pairwise fun a b=>a.1<b.1) {i:Nat} {l:IX}:Tg b (ĕ b) i l=0↔km l.2.1 0 20000=true∧inP l.2.2 0 1048576=true∧(∃g,ç b l.1=some g∧g.2.1≤l.2.1.1) ∧
 (∀x∈b.2.2.2.1.take i,x.1=l.1→¬(x.2.1.1≤l.2.1.2∧l.2.1.1≤x.2.1.2))∧∀u∈b.2.2.1,u.1=l.1→inP u.2 l.2.1.1 l.2.1.2=false:=by
 unfold Tg;rw[←vI hi]
 cases km l.2.1 0 20000 with
 |false=>simp
 |true =>
  cases inP l.2.2 0 1048576 with
  |false=>simp
  |true =>
   by_cases h:ow (ĕ b) l.1 l.2.1.1=0
   ·simp only[h,dD,cX,if_false,bne_self_eq_false,true_and]
    split
    ·rename_i h1;simp only[du,cH,beq_iff_eq,decide_eq_true_eq] at h1;obtain⟨x,hx,e1,e2⟩:=h1;exact⟨fun e=>absurd e (by decide),fun e=>absurd e2 (e.1 x hx e1)⟩
    ·rename_i h1;simp only[du,cH,beq_iff_eq,decide_eq_true_eq,not_exists,not_and] at h1
     split
     ·rename_i h2;simp only[du,cH,beq_iff_eq] at h2;obtain⟨u,hu,e1,e2⟩:=h2;exact⟨fun e=>absurd e (by decide),fun e=>by have:=e.2 u hu e1; rw[e2] at this; cases this⟩
     ·rename_i h2;simp only[du,cH,beq_iff_eq,not_exists,not_and] at h2;exact⟨fun _=>⟨fun x hx e ⟨p,q⟩=>h1 x hx e p q,fun u hu e=>by simpa using h2 u hu e⟩,fun _=>rfl⟩
   ·simp[h]
def Hs {b:ò} (hi:b.2.1.Pairwise fun a b=>a.1<b.1) {c:Cmp}:zw b (ĕ b) c=0↔(∀x∈c.2.2.1++c.2.2.2.1,(∃g,ç b x=some g∧g.2.1≤c.2.1)∧nY b x c.2.1=none) ∧
 (ù c.2.2.1 c.2.2.2.1).length≤1∧(ù c.2.2.2.1 c.2.2.1).length≤1∧(ù c.2.2.1 c.2.2.2.1).length+(ù c.2.2.2.1 c.2.2.1).length≠0:=by
 unfold zw;constructor
 ·intro h
  split at h
  ·cases h
  rename_i h1
  split at h
  ·cases h
  rename_i h2
  split at h
  ·cases h
  rename_i h3
  split at h
  ·cases h
  split at h
  ·cases h
  split at h
  ·cases h
  simp only[du,not_exists,not_and,beq_iff_eq] at h1 h2;simp only[du,not_exists,not_and,Option.isSome_iff_ne_none,ne_eq,Decidable.not_not] at h3;refine⟨fun x hx=>⟨(vI hi).1 ?_,h3 x hx⟩,by omega,by omega,by omega⟩;rcases LF (ĕ b) x c.2.1 with e|e|e
  ·exact e
  ·exact absurd e (h2 x hx)
  ·exact absurd e (h1 x hx)
 ·intro⟨h1,h2,h3,h4⟩;have hz:∀x∈c.2.2.1++c.2.2.2.1,ow (ĕ b) x c.2.1=0:=fun x hx=>(vI hi).2 (h1 x hx).1;rw[if_neg,if_neg,if_neg,if_neg (by omega),if_neg (by omega),if_neg h4]
  ·simp only[du,not_exists,not_and,Option.isSome_iff_ne_none,ne_eq,Decidable.not_not];exact fun x hx=>(h1 x hx).2
  ·simp only[du,not_exists,not_and,beq_iff_eq]
   exact fun x hx e=>by rw[hz x hx] at e; cases e
  ·simp only[du,not_exists,not_and,beq_iff_eq]
   exact fun x hx e=>by rw[hz x hx] at e; cases e
def IV {b:ò} {x d:Int}:nY b x d=none↔∀l∈b.2.2.2.1,l.1=x→inP d l.2.1.1 l.2.1.2=false:=by
 unfold nY;rw[List.find?_eq_none];simp
def zx {m:Ū} {w:Way} {d:Int} {l:List Int} {y:Int}:y∈nV m w d l↔∃x∈l,Ň m.2 w x d=y:=by
 unfold nV;rw[(ľ _).mem_iff,List.mem_map]
section
variable {m:Ū} {w:Way}
def MOk.nd (h:MOk m):∀x∈m.2,x.2.Nodup:=fun x hx=>afq (h.mix hx).asc
def MOk.inj (h:MOk m) (hw:Į m.2 w) {d x y:Int} (e:Ň m.2 w x d=Ň m.2 w y d):x=y:=by
 rw[←YH hw h.nd x d,e,YH hw h.nd]
def MOk.whoG (h:MOk m) (hw:Į m.2 w) {d x:Int} (hx:∃g,ç m.1 x=some g∧g.2.1≤d):∃g,ç m.1 (Ň m.2 w x d)=some g∧g.2.1≤d :=
 Xr (fun y=>∃g,ç m.1 y=some g∧g.2.1≤d) hw (fun y hy hd z hz=>by
  obtain⟨g,h1,h2⟩:=(h.mix hy).known z hz
  exact⟨g,h1,by omega⟩) hx
def MOk.made (h:MOk m) (hw:Į m.2 w) {x:Int} {g:ï} (hg:ç m.1 x=some g):Ň m.2 w x g.2.1=x :=
 Ex hw fun y hy hd hx=>by
  obtain⟨g',h1,h2⟩:=(h.mix hy).known x hx;rw[hg] at h1; cases h1;omega
def MOk.loan (h:MOk m) (hw:Į m.2 w) {l:IX} (hl:l∈m.1.2.2.2.1) {d:Int} (hd:inP d l.2.1.1 l.2.1.2=true):Ň m.2 w l.1 d=Ň m.2 w l.1 l.2.1.1:=by
 simp only[inP,cH,decide_eq_true_eq] at hd;refine T4 hw h.days hd.1 fun y hy h1 h2 hx=>?_;have:=(IV.1 ((h.mix hy).home _ hx).1) l hl rfl;simp only[inP,gT,decide_eq_false_iff_not] at this;omega
def ad4 (h:MOk m) (hw:Į m.2 w) (d:Int) (A B:List Int):(ù (nV m w d A) (nV m w d B)).Perm ((ù A B).map fun x=>Ň m.2 w x d):=by
 unfold ù;refine((ľ _).filter _).trans ?_;rw[List.filter_map];refine List.Perm.of_eq ?_;congr 1;refine List.filter_congr fun x hx=>?_;simp only[Function.comp];congr 1;rw[Bool.eq_iff_iff,List.contains_iff_mem,List.contains_iff_mem,zx];exact⟨fun⟨y,hy,e⟩=>h.inj hw e▸hy,fun hy=>⟨x,hy,rfl⟩⟩
def ZN (h:MOk m) (hw:Į m.2 w) {d:Int} {l:List Int} (hp:qr l=true) (hk:∀x∈l,∃g,ç m.1 x=some g∧g.2.1≤d):qr (nV m w d l)=true:=by
 obtain⟨h1,h2,h3⟩:=(rr l).1 hp;refine(rr _).2 ⟨fun y hy=>?_,?_,by unfold nV; rw[(ľ _).length_eq,List.length_map]; exact h3⟩
 ·obtain⟨x,hx,rfl⟩:=zx.1 hy;obtain⟨g,hg,_⟩:=h.whoG hw (hk x hx);obtain⟨g1,g2⟩:=Š hg;have:=(h.good.gaugeR g1).2.2.2.1;rw[←g2]; exact this
 ·have hnd:(nV m w d l).Nodup:=by
   unfold nV;rw[(ľ _).nodup_iff];exact List.pairwise_map.2 (h2.imp fun hlt e=>by have:=h.inj hw e; omega)
  exact((ip _).and hnd).imp fun⟨a,b⟩=>Int.lt_iff_le_and_ne.2 ⟨a,b⟩
def ah4 (h:MOk m) (hw:Į m.2 w) {x d:Int} (ha:nY m.1 x d=none):nY (trP m w) (Ň m.2 w x d) d=none:=by
 rw[IV];intro l' hl' e;obtain⟨l,hl,rfl⟩:=dt.1 hl'
 cases hd:inP d l.2.1.1 l.2.1.2 with
 |false=>rfl
 |true =>
  rw[←h.loan hw hl hd] at e;have:=IV.1 ha l hl (h.inj hw e);rw[hd] at this; cases this
def xc {b:ò} (hi:b.2.1.Pairwise fun a b=>a.1<b.1):(Ñ b).Nodup:=by
 unfold Ñ List.Nodup;rw[List.pairwise_flatMap];refine⟨fun g _=>List.pairwise_map.2 ((yr b g).imp fun h e=>by cases e; omega),hi.imp fun hlt x hx y hy e=>?_⟩;obtain⟨d,_,rfl⟩:=List.mem_map.1 hx;obtain⟨d',_,rfl⟩:=List.mem_map.1 hy;simp only[Prod.mk.injEq] at e;omega
def pf {b:ò} {x d:Int}:(x,d)∈Ñ b↔∃g∈b.2.1,g.1=x∧d∈é b g:=by
 unfold Ñ;simp only[List.mem_flatMap,List.mem_map];constructor
 ·rintro⟨g,hg,d',hd,e⟩;cases e;exact⟨g,hg,rfl,hd⟩
 ·rintro⟨g,hg,rfl,hd⟩;exact⟨g,hg,d,hd,rfl⟩
def BP (h:MOk m) (hw:Į m.2 w) {d:Int} {A:List Int} {x:Int}:(nV m w d A).contains (Ň m.2 w x d)=A.contains x:=by
 rw[gH,eV,eV,zx];exact⟨fun⟨y,hy,e⟩=>h.inj hw e▸hy,fun hy=>⟨x,hy,rfl⟩⟩
def acH (h:MOk m) (hw:Į m.2 w) {x d:Int} (hn:(x,d)∈Ñ m.1):(Ň m.2 w x d,d)∈Ñ (trP m w):=by
 obtain⟨g,hg,rfl,hd⟩:=pf.1 hn;have hgo:=sk h.good.ids hg;obtain⟨g',e1,_⟩:=h.whoG hw (x:=g.1) (d:=d) ⟨g,hgo,(h.good.day hg hd).1⟩;obtain⟨e2,e3⟩:=Š e1;refine pf.2 ⟨g',e2,e3,ε.2 ?_⟩;rcases ε.1 hd with rfl|⟨c,hc,e4,rfl⟩|⟨n,hnn,e4,rfl⟩
 ·rw[h.made hw hgo,hgo] at e1;cases e1;exact .inl rfl
 ·refine .inr (.inl ⟨Xo m w c,dt.2 ⟨c,hc,rfl⟩,?_,rfl⟩);rw[e3];show(nV m w c.2.1 c.2.2.1).contains _≠(nV m w c.2.1 c.2.2.2.1).contains _;rw[BP h hw,BP h hw];exact e4
 ·exact .inr (.inr ⟨_,dt.2 ⟨n,hnn,rfl⟩,by rw[e3,e4],rfl⟩)
def I2 (h:MOk m) (hw:Į m.2 w) {y d:Int} (hn:(y,d)∈Ñ (trP m w)):∃x,Ň m.2 w x d=y∧(x,d)∈Ñ m.1:=by
 obtain⟨g,hg,rfl,hd⟩:=pf.1 hn;have hg:g∈m.1.2.1:=hg;have hgo:=sk h.good.ids hg;have hx:Ň m.2 w (ahB m.2 w g.1 d) d=g.1:=act hw h.nd _ _
 have fin:∀x,Ň m.2 w x d=g.1→(∃g',ç m.1 x=some g')→(∀g':ï,g'.1=x→d∈é m.1 g')→∃x,Ň m.2 w x d=g.1∧(x,d)∈Ñ m.1:=fun x e ⟨g',e1⟩ e2=>by
  obtain⟨e3,e4⟩:=Š e1;exact⟨x,e,pf.2 ⟨g',e3,e4,e2 g' e4⟩⟩
 rcases ε.1 hd with e|⟨c',hc',e4,e5⟩|⟨n',hn',e4,e5⟩
 ·subst e;exact⟨g.1,h.made hw hgo,pf.2 ⟨g,hg,rfl,uA g⟩⟩
 ·obtain⟨c,hc,rfl⟩:=dt.1 hc';have e5:c.2.1=d:=e5;subst e5;have e4:(nV m w c.2.1 c.2.2.1).contains g.1≠(nV m w c.2.1 c.2.2.2.1).contains g.1:=e4;rw[←hx,BP h hw,BP h hw] at e4;refine fin _ hx ?_ fun g' e=>ε.2 (.inr (.inl ⟨c,hc,by rw[e]; exact e4,rfl⟩))
  have:ahB m.2 w g.1 c.2.1∈c.2.2.1++c.2.2.2.1:=by
   rw[cM,←eV,←eV]
   cases h1:c.2.2.1.contains (ahB m.2 w g.1 c.2.1) with
   |true=>exact .inl rfl
   |false =>
    rw[h1] at e4;exact .inr (by simpa using e4)
  obtain⟨⟨g',e,_⟩,_⟩:=h.good.pile hc this;exact⟨g',e⟩
 ·obtain⟨n,hnl,rfl⟩:=dt.1 hn';have e5:n.2=d:=e5;have e4:Ň m.2 w n.1 n.2=g.1:=e4;subst e5;obtain⟨_,g',e,_⟩:=(Ey h.good.ids).1 (h.good.looks n hnl);exact fin n.1 e4 ⟨g',e⟩ fun g'' e=>ε.2 (.inr (.inr ⟨n,hnl,e.symm,rfl⟩))
def yP (m:Ū) (w:Way) (n:Int×Int):Int×Int:=(Ň m.2 w n.1 n.2,n.2)
def acI (h:MOk m):(trP m w).2.1.Pairwise fun a b=>a.1<b.1:=h.good.ids
def ahp (h:MOk m) (hw:Į m.2 w):(Ñ (trP m w)).length=(Ñ m.1).length:=by
 have h1:(Ñ (trP m w)).length≤((Ñ m.1).map (yP m w)).length:=dW (xc (acI h)) fun n hn=>by
  obtain⟨x,e,hx⟩:=I2 (y:=n.1) (d:=n.2) h hw hn;exact dt.2 ⟨(x,n.2),hx,Prod.ext e rfl⟩
 have h2:((Ñ m.1).map (yP m w)).length≤(Ñ (trP m w)).length:=by
  have hnd:((Ñ m.1).map (yP m w)).Nodup:=by
   refine List.pairwise_map.2 ((xc h.good.ids).imp ?_);intro a b hne e;unfold yP at e;simp only[Prod.mk.injEq] at e;obtain⟨e1,e2⟩:=e;rw[e2] at e1;exact hne (Prod.ext (h.inj hw e1) e2)
  refine dW hnd fun n hn=>?_;obtain⟨⟨x,d⟩,hx,rfl⟩:=dt.1 hn;exact acH h hw hx
 rw[dz] at h1 h2;omega
def rh (h:MOk m) (hw:Į m.2 w):Ő (trP m w):=by
 have hg:=h.good;have hids:=acI (w:=w) h;have hsh:ĕ (trP m w)=ĕ m.1:=rfl;have hgo:∀x,ç (trP m w) x=ç m.1 x:=fun _=>rfl;have hlen:=ahp h hw;refine⟨hg.film,hg.nG,by simpa[trP] using hg.nU,by simpa[trP] using hg.nL,by simpa[trP] using hg.nC,by simpa[trP] using hg.nK,hg.gauge,hids,?_,?_,?_,?_,by rw[hlen]; exact hg.nodes,by rw[hlen]; simpa[trP] using hg.links⟩
 ·intro u' hu';obtain⟨u,hu,rfl⟩:=dt.1 hu';obtain⟨e1,e2⟩:=(Ey hg.ids).1 (hg.uses u hu);exact(Ey hids).2 ⟨e1,h.whoG hw e2⟩
 ·intro i l' hl'
  obtain⟨l,hl,rfl⟩:∃l,m.1.2.2.2.1[i]?=some l∧(Ň m.2 w l.1 l.2.1.1,l.2)=l':=by
   have:(m.1.2.2.2.1.map (fun l:IX=>(Ň m.2 w l.1 l.2.1.1,l.2)))[i]?=some l':=hl';rw[ff] at this
   cases hx:m.1.2.2.2.1[i]? with
   |none=>rw[hx] at this; cases this
   |some l=>rw[hx] at this; exact⟨l,rfl,by simpa using this⟩
  have hlm:=cO hl;obtain⟨e1,e2,e3,e4,e5⟩:=(Wg hg.ids).1 (hg.loans i l hl);refine(Wg hids).2 ⟨e1,e2,h.whoG hw e3,fun x' hx' ex hov=>?_,fun u' hu' eu=>?_⟩
  ·have hx':x'∈(m.1.2.2.2.1.map (fun l:IX=>(Ň m.2 w l.1 l.2.1.1,l.2))).take i:=hx';rw[←List.map_take] at hx';obtain⟨x,hx,rfl⟩:=List.mem_map.1 hx';have hxm:=List.mem_of_mem_take hx;have s1:=(wE hg hxm).1;have s2:=(wE hg hlm).1;dsimp only at ex hov
   have d1:inP (max x.2.1.1 l.2.1.1) x.2.1.1 x.2.1.2=true:=by simp[inP]; omega
   have d2:inP (max x.2.1.1 l.2.1.1) l.2.1.1 l.2.1.2=true:=by simp[inP]; omega
   rw[←h.loan hw hxm d1,←h.loan hw hlm d2] at ex;exact e4 x hx (h.inj hw ex) hov
  ·obtain⟨u,hu,rfl⟩:=List.mem_map.1 hu';dsimp only at eu ⊢
   cases hd:inP u.2 l.2.1.1 l.2.1.2 with
   |false=>rfl
   |true =>
    rw[←h.loan hw hlm hd] at eu;have:=e5 u hu (h.inj hw eu);rw[hd] at this; cases this
 ·intro i c' hc'
  obtain⟨c,hc,rfl⟩:∃c,m.1.2.2.2.2.1[i]?=some c∧Xo m w c=c':=by
   have:(m.1.2.2.2.2.1.map (Xo m w))[i]?=some c':=hc';rw[ff] at this
   cases hx:m.1.2.2.2.2.1[i]? with
   |none=>rw[hx] at this; cases this
   |some l=>rw[hx] at this; exact⟨l,rfl,by simpa using this⟩
  have hcm:=cO hc;obtain⟨n1,n2,n3,n4,n5,n6,n7⟩:=(jp c).1 (hg.nums hcm);have hp:=(Hs hg.ids).1 (hg.pilesOf hcm);have hk:∀x∈c.2.2.1++c.2.2.2.1,∃g,ç m.1 x=some g∧g.2.1≤c.2.1:=fun x hx=>(hp.1 x hx).1;have hnum:UU (Xo m w c)=true:=(jp _).2 ⟨n1,n2,n3,n4,n5,ZN h hw n6 fun x hx=>hk x (dB _ hx),ZN h hw n7 fun x hx=>hk x (dw _ hx)⟩;have l1:=(ad4 h hw c.2.1 c.2.2.1 c.2.2.2.1).length_eq;have l2:=(ad4 h hw c.2.1 c.2.2.2.1 c.2.2.1).length_eq;rw[dz] at l1 l2
  have hpi:zw (trP m w) (ĕ (trP m w)) (Xo m w c)=0:=by
   refine(Hs hids).2 ⟨fun y hy=>?_,?_,?_,?_⟩
   ·have hy:y∈nV m w c.2.1 c.2.2.1++nV m w c.2.1 c.2.2.2.1:=hy
    obtain⟨x,hx,rfl⟩:∃x∈c.2.2.1++c.2.2.2.1,Ň m.2 w x c.2.1=y:=by
     rcases cM.1 hy with hy|hy
     ·obtain⟨x,hx,e⟩:=zx.1 hy;exact⟨x,dB _ hx,e⟩
     ·obtain⟨x,hx,e⟩:=zx.1 hy;exact⟨x,dw _ hx,e⟩
    exact⟨h.whoG hw (hk x hx),ah4 h hw (hp.1 x hx).2⟩
   ·show(ù (nV m w c.2.1 c.2.2.1) (nV m w c.2.1 c.2.2.2.1)).length≤1;rw[l1]; exact hp.2.1
   ·show(ù (nV m w c.2.1 c.2.2.2.1) (nV m w c.2.1 c.2.2.1)).length≤1;rw[l2]; exact hp.2.2.1
   ·show(ù (nV m w c.2.1 c.2.2.1) (nV m w c.2.1 c.2.2.2.1)).length+(ù (nV m w c.2.1 c.2.2.2.1) (nV m w c.2.1 c.2.2.1)).length≠0;rw[l1,l2]; exact hp.2.2.2
  have h0:=hg.compares i c hc;unfold jk at h0 ⊢;rw[hg.nums hcm] at h0;rw[hnum,hpi]
  have ht:((trP m w).2.2.2.2.1.take i).any (fun x=>x.1==(Xo m w c).1)=(m.1.2.2.2.2.1.take i).any fun x=>x.1==c.1:=by
   show((m.1.2.2.2.2.1.map (Xo m w)).take i).any _=_;rw[←List.map_take,List.any_map]; rfl
  rw[ht];simp only[dD,cX,if_false] at h0 ⊢
  split at h0
  ·cases h0
  ·rename_i h1; rw[if_neg h1]
 ·intro n' hn';obtain⟨n,hn,rfl⟩:=dt.1 hn';obtain⟨e1,e2⟩:=(Ey hg.ids).1 (hg.looks n hn);exact(Ey hids).2 ⟨e1,h.whoG hw e2⟩
end
section
variable {L:List Lk} {N:Nat}
def Hc (h:kh L N):jw ((N:Int),L)=some (jo L N,0):=by
 have h2:=h.n60;unfold jw vf;rw[qP h,À];dsimp only;rw[Ò (by rfl),wY h.links h.n1 (by omega),À]
 cases jo L N<;>rfl
end
def Zl (x y:List Int):List Int×List Int×Int:=if !qr x then([],[],1) else if !qr y then([],[],1) else(ù x y,ù y x,0)
def afC {x y:List Int} (hx:x.length≤100000) (hy:y.length≤100000):rc x y=some (Zl x y):=by
 unfold rc Ij Zl;rw[AM (by omega),À]
 cases qr x with
 |false=>rfl
 |true =>
  rw[AM (by omega),À]
  cases qr y with
  |false=>rfl
  |true =>
   rw[AK (by omega) (by omega),À,AK (by omega) (by omega),À];rfl
def less (b:ò) (ids:List Int):ò:=(b.1,b.2.1,b.2.2.1,b.2.2.2.1,b.2.2.2.2.1.filter (fun c=>!ids.contains c.1),b.2.2.2.2.2)
section
variable {b:ò} {ids:List Int}
def Ő.distinct (h:Ő b):b.2.2.2.2.1.Pairwise fun a c=>a.1≠c.1:=by
 rw[List.pairwise_iff_getElem];intro i j hi hj hij he;have hz:=h.compares j _ (List.getElem?_eq_getElem hj);unfold jk at hz
 have hany:(b.2.2.2.2.1.take j).any (fun x=>x.1==b.2.2.2.2.1[j].1)=true:=by
  rw[du];exact⟨b.2.2.2.2.1[i],cS.2 ⟨i,by rw[cZ]; omega,by rw[fg]⟩,by simp[he]⟩
 rw[hany] at hz
 (repeat' split at hz)<;>first|omega|simp_all
def aem {α β:Type} (f g:α→List β):∀l:List α,(∀a∈l,(f a).length≤(g a).length)→(l.flatMap f).length≤(l.flatMap g).length
 |[],_=>cG _
 |a::l,h=>by
  rw[dG,dG,cJ,cJ];have:=h a (by simp);have:=aem f g l fun c hc=>h c (by simp[hc]);omega
def lt_len:∀{x y:List Int},x.Pairwise (·<·)→(∀a∈x,a∈y)→x.length≤y.length:=by
 intro x y hx h;exact(dW (hx.imp fun h=>by omega) h)
def Ő.less (h:Ő b) (ids:List Int):Ő (less b ids):=by
 have hsub:∀c∈(ZzM.less b ids).2.2.2.2.1,c∈b.2.2.2.2.1:=fun c hc=>(dH.1 hc).1;have hlen:(ZzM.less b ids).2.2.2.2.1.length≤b.2.2.2.2.1.length:=dV _ _
 have hdays:∀g,(é (ZzM.less b ids) g).length≤(é b g).length:=fun g=>lt_len (yr _ g) fun d hd=>by
  rcases ε.1 hd with e|⟨c,hc,h1,h2⟩|hn
  ·exact ε.2 (.inl e)
  ·exact ε.2 (.inr (.inl ⟨c,hsub c hc,h1,h2⟩))
  ·exact ε.2 (.inr (.inr hn))
 have hnodes:(Ñ (ZzM.less b ids)).length≤(Ñ b).length:=aem _ _ _ fun g _=>by rw[dz,dz]; exact hdays g
 have hN:=h.nodes;have hC:=h.nC;refine⟨h.film,h.nG,h.nU,h.nL,Nat.le_trans hlen h.nC,h.nK,h.gauge,h.ids,h.uses,h.loans,fun i c hc=>?_,h.looks,Nat.le_trans hnodes hN,by omega⟩;have hcm:=hsub c (List.mem_of_getElem? hc);obtain⟨j,hj,hjc⟩:=List.mem_iff_getElem.1 hcm;have hz:=h.compares j c (by rw[List.getElem?_eq_getElem hj,hjc]);unfold jk at hz ⊢
 split at hz
 ·omega
 rename_i h1
 split at hz
 ·omega
 rw[if_neg h1,if_neg ?_]
 ·exact hz
 ·intro hany;obtain⟨x,hx,he⟩:=du.1 hany;obtain⟨k,hk,hkx⟩:=cS.1 hx;rw[cZ] at hk;rw[fg] at hkx;obtain⟨hi,hic⟩:=cI.1 hc;have hp:=dl.1 ((h.distinct.sublist List.filter_sublist:(ZzM.less b ids).2.2.2.2.1.Pairwise fun a c=>a.1≠c.1)) k i (by omega) hi (by omega);rw[hkx,hic] at hp;exact hp (eq_of_beq he)
end
abbrev zC:Cmp:=((0:Int),(0:Int),[],[],(0:Int),(0:Int),(0:Int),(0:Int))
section
variable {ρ α:Type}
def aeE (z0:α) (K:List α→Option ρ) (z:Int×List α):Option ρ :=
 è ((ile (0:Int) z.1)&&(ile z.1 (ú z.2))) (è ((ile (0:Int) z.1)&&(ile z.1 (ú (List.take (Int.toNat z.1) z.2++List.replicate (List.length z.2-(Int.toNat z.1)) z0++List.drop ((Int.toNat z.1)+(List.length z.2-(Int.toNat z.1))) z.2))))
  (K (List.take (Int.toNat z.1) (List.drop 0 (List.take (Int.toNat z.1) z.2++List.replicate (List.length z.2-(Int.toNat z.1)) z0++List.drop ((Int.toNat z.1)+(List.length z.2-(Int.toNat z.1))) z.2)))))
def YX (z0:α) (K:List α→Option ρ) {i:Nat} {s:List α} (h:i≤s.length):aeE z0 K ((i:Int),s)=K (s.take i):=by
 unfold aeE
 have g1:((ile (0:Int) (i:Int))&&(ile (i:Int) (ú s)))=true:=by simp[ile,ú]; omega
 dsimp only;rw[ÿ g1]
 have g2:((ile (0:Int) (i:Int))&&(ile (i:Int) (ú (List.take (Int.toNat (i:Int)) s++List.replicate (List.length s-(Int.toNat (i:Int))) z0++List.drop ((Int.toNat (i:Int))+(List.length s-(Int.toNat (i:Int)))) s))))=true:=by
  simp[ile,ú]; omega
 rw[ÿ g2,cT,gO,cR,fD (by simp; omega),List.take_take,Nat.min_self]
def abZ (p:α→Bool) {a:List α} {F:Int→Int→List α→(Int→Int→List α→Option ρ)→Option ρ} {k0:Int×List α→Option ρ} {K:List α→Option ρ}
 (hF:∀(i j:Nat) (s:List α) (x:α),s.length=a.length→i<j→j<s.length→s[j]?=some x→x∈a→∀kn,F i j s kn=if p x then kn ((i:Int)+1) ((j:Int)+1) (s.set i x) else kn i ((j:Int)+1) s)
 (hE:∀(i:Nat) (s:List α) kn,i≤s.length→s.length=a.length→F i s.length s kn=k0 ((i:Int),s)) (hk:∀(i:Nat) (s:List α),i≤s.length→k0 ((i:Int),s)=K (s.take i))
 {z:Nat} (hz:z<a.length) (hp:∀x∈a.take z,p x=true) (hc:∀c,a[z]?=some c→p c=false) :
 Í (fun(v:Int×Int×List α) kk=>F v.1 v.2.1 v.2.2 (fun x y w=>kk (x,y,w))) ((z:Int),((z:Int)+1),a)=K (a.filter p):=by
 refine đ (fun x:Int×Int×List α=>∃i j:Nat,x.1=i∧x.2.1=j∧i<j∧j≤a.length∧x.2.2.length=a.length∧x.2.2.take i=(a.take j).filter p∧x.2.2.drop j=a.drop j) (fun x=>a.length-x.2.1.toNat) ?_
  ⟨z,z+1,rfl,by simp,by omega,by omega,rfl,?_,rfl⟩
 ·rintro⟨x1,x2,s⟩ ⟨i,j,h1,h2,hij,hja,hl,ht,hd⟩;simp only at h1 h2 hl ht hd;subst h1 h2;rcases df j a.length with hj|hj
  ·refine .inr ?_
   have hsj:s[j]?=some a[j]:=by
    have h3:(s.drop j)[0]?=(a.drop j)[0]?:=by rw[hd]
    rw[eo,eo] at h3;simpa[cF hj] using h3
   have hta:(a.take (j+1)).filter p=(a.take j).filter p++if p a[j] then[a[j]] else[]:=by
    rw[take_succ (cF hj),eM];congr 1
    cases h:p a[j]<;>simp[h]
   have hdd:s.drop (j+1)=a.drop (j+1):=by
    have:=congrArg (List.drop 1) hd;simpa[fX,Nat.add_comm] using this
   have hf:=hF i j s a[j] hl hij (by omega) hsj (eN hj)
   cases h:p a[j] with
   |false =>
    refine⟨(i,(j:Int)+1,s),⟨i,j+1,rfl,by simp,by omega,by omega,hl,?_,hdd⟩,by simp; omega,fun kn=>by dsimp only; rw[hf,h]; rfl⟩;rw[hta,h]; simpa using ht
   |true =>
    have his:i<s.length:=by omega
    refine⟨((i:Int)+1,(j:Int)+1,s.set i a[j]),⟨i+1,j+1,by simp,by simp,by omega,by omega,by simpa using hl,?_,?_⟩,by simp; omega,fun kn=>by dsimp only; rw[hf,h]; rfl⟩
    ·show List.take (i+1) (s.set i a[j])=_;rw[hta,h,List.take_add_one,fR,List.take_set_of_le (cG i),ht];simp[his]
    ·show List.drop (j+1) (s.set i a[j])=_;rw[List.drop_set_of_lt (by omega)];exact hdd
  ·refine .inl fun kn=>?_
   have hje:j=s.length:=by omega
   try dsimp only
   rw[hje,hE i s _ (by omega) hl,hk i s (by omega),ht,dS (by omega)]
 ·show List.take z a=(a.take (z+1)).filter p;have hz':a[z]?=some a[z]:=cF hz;rw[take_succ hz',eM,gF.2 hp];simp[hc _ hz']
def YW (p:α→Bool) {a:List α} {F1:Int→(Int→Option ρ)→Option ρ} {F:Int→Int→List α→(Int→Int→List α→Option ρ)→Option ρ} {k0:Int×List α→Option ρ} {K:List α→Option ρ} {kf:Int→Option ρ} {kend:Option ρ}
 (h1:∀(i:Nat) (x:α),i<a.length→a[i]?=some x→∀kn,F1 i kn=if !p x then kf i else kn ((i:Int)+1)) (h1e:∀kn,F1 a.length kn=kend) (hend:kend=K a)
 (hkf:∀z:Nat,z<a.length→kf z=Í (fun(v:Int×Int×List α) kk=>F v.1 v.2.1 v.2.2 (fun x y w=>kk (x,y,w))) ((z:Int),((z:Int)+1),a))
 (hF:∀(i j:Nat) (s:List α) (x:α),s.length=a.length→i<j→j<s.length→s[j]?=some x→x∈a→∀kn,F i j s kn=if p x then kn ((i:Int)+1) ((j:Int)+1) (s.set i x) else kn i ((j:Int)+1) s)
 (hE:∀(i:Nat) (s:List α) kn,i≤s.length→s.length=a.length→F i s.length s kn=k0 ((i:Int),s)) (hk:∀(i:Nat) (s:List α),i≤s.length→k0 ((i:Int),s)=K (s.take i)):Í F1 0=K (a.filter p):=by
 rw[j7 a (fun x=>!p x) kf kend h1 h1e]
 cases hf:a.findIdx? (fun x=>!p x) with
 |none =>
  dsimp only;rw[hend,List.filter_eq_self.2];intro x hx;have:=List.findIdx?_eq_none_iff.1 hf x hx;simpa using this
 |some z =>
  obtain⟨hz,hcz,hlt⟩:=List.findIdx?_eq_some_iff_getElem.1 hf;dsimp only;rw[hkf z hz];refine abZ p hF hE hk hz (fun x hx=>?_) (fun c hc=>?_)
  ·obtain⟨j,hj,rfl⟩:=cS.1 hx;rw[cZ] at hj;rw[fg];have:=hlt j (by omega);simpa using this
  ·rw[cF hz] at hc;cases hc;simpa using hcz
end
def sZ (m:Ū) (w:Way):Bool:=jo (Τ (trP m w)) ((Ñ (trP m w)).length+1)
def jM (m:Ū):List Way:=(sE m.2).filter (sZ m)
def QF (m:Ū):Way×Bool:=match (sE m.2).find? (sZ m) with|some w=>(w,true)|none=>([],false)
section
variable {m:Ū} {w:Way} {ρ:Type}
def In_tr (h:MOk m) (hw:Į m.2 w):In (trP m w):=⟨(rh h hw).size,h.in_.num⟩
def W7 (h:MOk m) (hw:Į m.2 w):iX (trP m w)=some ((((Ñ (trP m w)).length:Int)+1,Τ (trP m w)),ED (trP m w),0):=by
 rw[Oc (In_tr h hw),IW,if_neg (by simp[(ė _).2 (rh h hw)])]
def yp (h:MOk m) (hw:Į m.2 w):j9 m w=some (sZ m w):=by
 unfold j9 zR;rw[zm h hw,À,W7 h hw,À];have:=Hc (rh h hw).sys;simp only[Int.natCast_add,Int.cast_ofNat_Int] at this;rw[this]; rfl
def KT {i:Nat} (hi:(sE m.2)[i]?=some w):Į m.2 w:=vv.1 (cO hi)
def Km (h:MOk m):(sE m.2).length≤150:=by rw[acx]; exact h.prod
def aeg (h:MOk m):GO m=some (jM m):=by
 unfold GO RN;have hl:=TJ h;have hl2:=Km h;have hm:((((m.1.1.1,m.1.1.2),m.1.2.1,m.1.2.2.1,m.1.2.2.2.1,m.1.2.2.2.2.1,m.1.2.2.2.2.2),m.2):Ū)=m:=rfl;rw[aeP h,À,KJ (fun v y kn hv=>by unfold DL; rw[ÿ (Ú (by simp; omega))]) (by simp; omega),List.nil_append,Uo h,À]
 refine YW (a:=sE m.2) (sZ m) (K:=fun l=>some l) (k0:=aeE [] fun l=>some l) (kf:=fun z6=>ifb (ieq z6 (-1:Int)) (some (sE m.2)) (ck (z6+(1:Int)) fun n7=>Í (fun(v15:Int×Int×List Way) kk19=>oA m.1.1.1 m.1.1.2 m.1.2.1 m.1.2.2.1 m.1.2.2.2.1 m.1.2.2.2.2.1 m.1.2.2.2.2.2 m.2 v15.1 v15.2.1 v15.2.2 (fun u16 u17 u18=>kk19 (u16,u17,u18)) (aeE [] fun l=>some l)) (z6,n7,sE m.2)))
  (F:=fun a b c kn=>oA m.1.1.1 m.1.1.2 m.1.2.1 m.1.2.2.1 m.1.2.2.2.1 m.1.2.2.2.2.1 m.1.2.2.2.2.2 m.2 a b c kn (aeE [] fun l=>some l)) (kend:=some (sE m.2)) (fun i x hi hx kn=>?_) (fun kn=>?_) rfl (fun z hz=>?_) (fun i j s x hs hij hj hx hxa kn=>?_) (fun i s kn hi hs=>?_) (fun i s hi=>YX _ _ hi)
 ·try dsimp only
  unfold xz;rw[Õ hi,Ε hi,ġ hx,hm,yp h (KT hx),À,Î hi (by omega),Ķ];rfl
 ·try dsimp only
  unfold xz;rw[â]
 ·rw[Ò (by simp[ieq]),Î hz (by omega)]
 ·try dsimp only
  unfold oA;rw[Õ hj,show ú s=((s.length:Nat):Int) from rfl,Ε hj,ġ hx,hm,yp h (vv.1 hxa),À];cases sZ m x
  ·simp only[eQ,dD,ë,cX,if_false];rw[Î hj (by omega)]
  ·simp only[eQ,dD,md,if_true];rw[Ε (by omega),ġ (cF (by omega)),Î (show i<s.length by omega) (by omega),Î hj (by omega),cT]
 ·try dsimp only
  unfold oA;rw[â]
def uz (h:MOk m):ü m=some (QF m):=by
 unfold ü xA;have hl2:=Km h;have hm:((((m.1.1.1,m.1.1.2),m.1.2.1,m.1.2.2.1,m.1.2.2.2.1,m.1.2.2.2.2.1,m.1.2.2.2.2.2),m.2):Ū)=m:=rfl;rw[acw h,À];refine Eq.trans (wD (sE m.2) (fun _ w=>if sZ m w then some (w,true) else none) (fun z=>some (z.1,z.2)) (some ([],false)) (fun i x hi hx kn=>?_) (fun kn=>?_)) ?_
 ·try dsimp only
  unfold l8;rw[Õ hi,È hx,hm,yp h (KT hx),À,Î hi (by omega),Ķ]
  cases sZ m x<;>rfl
 ·try dsimp only
  unfold l8;rw[â]
 ·rw[Jw,QF]
  have key:∀l:List Way,l.findSome? (fun w=>if sZ m w then some (w,true) else none)=(l.find? (sZ m)).map fun w=>(w,true):=by
   intro l
   induction l with
   |nil=>rfl
   |cons x l ih =>
    rw[f6,fw]
    cases h:sZ m x with
    |true=>rfl
    |false=>exact ih
  rw[key]
  cases(sE m.2).find? (sZ m)<;>rfl
def vw (m:Ū):Bool:=(sE m.2).any (sZ m)
def sl (m:Ū):(QF m).2=vw m:=by
 unfold QF vw
 cases h:(sE m.2).find? (sZ m) with
 |none =>
  symm
  rw[eF]
  exact fun x hx=>by simpa using(dU.1 h) x hx
 |some w =>
  symm
  rw[du];exact⟨w,ft h,fP h⟩
def YG (m:Ū):Way×Int:=if ζ m≠0 then([],ζ m) else if vw m then((QF m).1,0) else([],5)
def afz (hs:In m.1) (hn:m.2.length≤1000):GP m=some (YG m):=by
 unfold GP Me YG;rw[oZ hs hn,À]
 by_cases hc:ζ m=0
 ·rw[Ò (by simp[ine,hc]),if_neg (by simp[hc]),uz ((Ι m).1 hc),À,sl]
  cases vw m<;>rfl
 ·rw[Ü (by simp[ine,hc]),if_pos hc]
def acl (m:Ū) (p:Cmp→Bool):Ū:=((m.1.1,m.1.2.1,m.1.2.2.1,m.1.2.2.2.1,m.1.2.2.2.2.1.filter p,m.1.2.2.2.2.2),m.2)
def XU (m:Ū) (ids:List Int):Ū:=acl m fun c=>ids.contains c.1
def adq (hn:m.1.2.2.2.2.1.length≤1000) {ids:List Int} (hi:ids.length≤1000000):GK m ids=some (XU m ids):=by
 unfold GK RF;rw[ÿ (Ú (by omega))]
 refine YW (a:=m.1.2.2.2.2.1) (fun c=>ids.contains c.1) (K:=fun l=>some ((m.1.1,m.1.2.1,m.1.2.2.1,m.1.2.2.2.1,l,m.1.2.2.2.2.2),m.2)) (k0:=aeE zC fun l=>some ((m.1.1,m.1.2.1,m.1.2.2.1,m.1.2.2.2.1,l,m.1.2.2.2.2.2),m.2))
  (kf:=fun z4=>ifb (ieq z4 (-1:Int)) (some m) (ck (z4+(1:Int)) fun n5=>Í (fun(v13:Int×Int×List Cmp) kk17=>oz ids v13.1 v13.2.1 v13.2.2 (fun u14 u15 u16=>kk17 (u14,u15,u16)) (aeE zC fun l=>some ((m.1.1,m.1.2.1,m.1.2.2.1,m.1.2.2.2.1,l,m.1.2.2.2.2.2),m.2))) (z4,n5,m.1.2.2.2.2.1)))
  (F:=fun a b c kn=>oz ids a b c kn (aeE zC fun l=>some ((m.1.1,m.1.2.1,m.1.2.2.1,m.1.2.2.2.1,l,m.1.2.2.2.2.2),m.2))) (kend:=some m) (fun i x hi' hx kn=>?_) (fun kn=>?_) rfl (fun z hz=>?_) (fun i j s x hs hij hj hx hxa kn=>?_) (fun i s kn hi hs=>?_) (fun i s hi=>YX _ _ hi)
 ·try dsimp only
  unfold xy;rw[Õ hi',Ε hi',ġ hx,ů hi,À,Î hi' (by omega),Ķ];rfl
 ·try dsimp only
  unfold xy;rw[â]
 ·rw[Ò (by simp[ieq]),Î hz (by omega)]
 ·try dsimp only
  unfold oz;rw[Õ hj,show ú s=((s.length:Nat):Int) from rfl,Ε hj,ġ hx,ů hi,À];cases ids.contains x.1
  ·simp only[eQ,dD,ë,cX,if_false];rw[Î hj (by omega)]
  ·simp only[eQ,dD,md,if_true];rw[Ε (by omega),ġ (cF (by omega)),Î (show i<s.length by omega) (by omega),Î hj (by omega),cT]
 ·try dsimp only
  unfold oz;rw[â]
end
section
variable {b:ò}
def Gq (h:Ő b) (g:ï) {f t u:Int} (h1:f≤t) (h2:t≤u):jF b g f u=jF b g f t+jF b g t u:=by
 obtain⟨n,rfl⟩:∃n:Nat,u=t+n:=⟨(u-t).toNat,by omega⟩;clear h2
 induction n with
 |zero=>simp[Wc]
 |succ n ih =>
  have e:t+((n+1:Nat):Int)=(t+n)+1:=by omega
  rw[e,Wa h g (show f≤t+(n:Int) by omega),Wa h g (show t≤t+(n:Int) by omega),ih];omega
def sd (h:Ő b) {g:ï} (hg:g∈b.2.1) {f t:Int} (hf:0≤f):0≤jF b g f t:=(se h hg hf).1
def iK (b:ò) (id d:Int):Int:=match la (Ñ b) id d with|some j=>(j:Int)+1|none=>0
def tf (h:Ő b) {i:Nat} {g:ï} (hg:b.2.1[i]?=some g) {k:Nat} {d:Int} (hk:(é b g)[k]?=some d):iK b g.1 d=(off b i:Int)+k+1:=by
 unfold iK;rw[Rw h hg hk];simp only;omega
structure wT (b:ò) (p:Int→Int) (g:ï):Prop where
 hi:p (iK b g.1 g.2.1)≤p 0+(g.2.2.1+g.2.2.2.1.2)
 lo:p 0+(g.2.2.1+g.2.2.2.1.1)≤p (iK b g.1 g.2.1)
 down:∀d e,d∈é b g→e∈é b g→d≤e→p (iK b g.1 e)≤p (iK b g.1 d)
 loss:∀d e,d∈é b g→e∈é b g→d≤e→p (iK b g.1 d)≤p (iK b g.1 e)+jF b g d e
def GB (h:Ő b) {i:Nat} {g:ï} (hg:b.2.1[i]?=some g) {p:Int→Int}:(∀l∈ŧ b g,p l.2.1≤p l.1+l.2.2)↔wT b p g:=by
 have hgm:=cO hg;obtain⟨tl,htl⟩:=Wy h hgm
 have h0:iK b g.1 g.2.1=(off b i:Int)+1:=by
  have:=tf h hg (k:=0) (d:=g.2.1) (by rw[htl]; rfl);rw[this];omega
 constructor
 ·intro hl;have e1:=hl _ ((Œ h hg).2 (.inl rfl));have e2:=hl _ ((Œ h hg).2 (.inr (.inl rfl)));simp only at e1 e2
  have step:∀(k:Nat) (d e:Int),(é b g)[k]?=some d→(é b g)[k+1]?=some e→p (iK b g.1 e)≤p (iK b g.1 d)∧p (iK b g.1 d)≤p (iK b g.1 e)+jF b g d e:=by
   intro k d e hd he;have a1:=hl _ ((Œ h hg).2 (.inr (.inr ⟨k,d,e,hd,he,.inl rfl⟩)));have a2:=hl _ ((Œ h hg).2 (.inr (.inr ⟨k,d,e,hd,he,.inr rfl⟩)));simp only at a1 a2;rw[tf h hg hd,tf h hg he]
   have e3:(off b i:Int)+((k+1:Nat):Int)+1=(off b i:Int)+k+2:=by omega
   rw[e3];exact⟨by omega,a2⟩
  have pair:∀(n k:Nat) (d e:Int),(é b g)[k]?=some d→(é b g)[k+n]?=some e→p (iK b g.1 e)≤p (iK b g.1 d)∧p (iK b g.1 d)≤p (iK b g.1 e)+jF b g d e:=by
   intro n
   induction n with
   |zero =>
    intro k d e hd he;rw[fL,hd] at he;cases he;rw[Wc g (dP _)];omega
   |succ n ih =>
    intro k d e hd he;have hlt:=(cI.1 he).1;have hm:(é b g)[k+n]?=some ((é b g)[k+n]'(by omega)):=cF (by omega);obtain⟨a1,a2⟩:=ih k d _ hd hm;obtain⟨a3,a4⟩:=step (k+n) _ e hm he
    have o1:d≤(é b g)[k+n]'(by omega):=by
     obtain⟨hkl,hkd⟩:=cI.1 hd;rcases fo n with rfl|hn
     ·rw[←hkd]; exact Int.le_of_eq (by congr 1)
     ·have:=(dl.1 (yr b g)) k (k+n) hkl (by omega) (by omega);rw[hkd] at this; omega
    have o2:(é b g)[k+n]'(by omega)≤e:=by
     obtain⟨hel,hee⟩:=cI.1 he;have:=(dl.1 (yr b g)) (k+n) (k+(n+1)) (by omega) hel (by omega);rw[hee] at this; omega
    have:=Gq h g o1 o2;omega
  have any:∀d e,d∈é b g→e∈é b g→d≤e→p (iK b g.1 e)≤p (iK b g.1 d)∧p (iK b g.1 d)≤p (iK b g.1 e)+jF b g d e:=by
   intro d e hd he hde;obtain⟨k,hk,rfl⟩:=cS.1 hd;obtain⟨m,hm,rfl⟩:=cS.1 he
   have hkm:k≤m:=by
    rcases df m k with hlt|hge
    ·have:=(dl.1 (yr b g)) m k hm hk hlt; omega
    ·exact hge
   exact pair (m-k) k _ _ (cF hk) (by rw[show k+(m-k)=m by omega]; exact cF hm)
  exact⟨by rw[h0]; omega,by rw[h0]; omega,fun d e hd he hde=>(any d e hd he hde).1,fun d e hd he hde=>(any d e hd he hde).2⟩
 ·intro hf l hl;rcases(Œ h hg).1 hl with rfl|rfl|⟨k,d,e,hd,he,rfl|rfl⟩
  ·have:=hf.hi; rw[h0] at this; simp only; omega
  ·have:=hf.lo; rw[h0] at this; simp only; omega
  ·have hde:d≤e:=by
    obtain⟨a1,a2⟩:=cI.1 hd;obtain⟨a3,a4⟩:=cI.1 he;have:=(dl.1 (yr b g)) k (k+1) a1 a3 (by omega);rw[a2,a4] at this; omega
   have:=hf.down d e (cO hd) (cO he) hde;rw[tf h hg hd,tf h hg he] at this
   have e3:(off b i:Int)+((k+1:Nat):Int)+1=(off b i:Int)+k+2:=by omega
   rw[e3] at this;simp only;omega
  ·have hde:d≤e:=by
    obtain⟨a1,a2⟩:=cI.1 hd;obtain⟨a3,a4⟩:=cI.1 he;have:=(dl.1 (yr b g)) k (k+1) a1 a3 (by omega);rw[a2,a4] at this; omega
   have:=hf.loss d e (cO hd) (cO he) hde;rw[tf h hg hd,tf h hg he] at this
   have e3:(off b i:Int)+((k+1:Nat):Int)+1=(off b i:Int)+k+2:=by omega
   rw[e3] at this;simp only;exact this
def adc (h:Ő b) {p:Int→Int}:Pot (Τ b) p↔(∀g∈b.2.1,wT b p g)∧∀c∈b.2.2.2.2.1,p (cx b c)≤p (cy b c)+(rl b c).2∧p (cy b c)+(rl b c).1≤p (cx b c):=by
 constructor
 ·intro hp;refine⟨fun g hg=>?_,fun c hc=>?_⟩
  ·obtain⟨i,hi,rfl⟩:=cS.1 hg;exact(GB h (cF hi)).1 fun l hl=>hp l.1 l.2.1 l.2.2 (qW.2 (.inl ⟨i,_,cF hi,hl⟩))
  ·have a1:=hp _ _ _ (qW.2 (.inr ⟨c,hc,.inl rfl⟩));have a2:=hp _ _ _ (qW.2 (.inr ⟨c,hc,.inr rfl⟩));omega
 ·rintro⟨hg,hc⟩ u v m hl;rcases qW.1 hl with⟨i,g,hig,hl⟩|⟨c,hcm,hl⟩
  ·exact(GB h hig).2 (hg g (cO hig)) (u,v,m) hl
  ·obtain⟨a1,a2⟩:=hc c hcm;rcases hl with hl|hl
   ·obtain⟨rfl,rfl,rfl⟩:u=cy b c∧v=cx b c∧m=(rl b c).2:=by simpa using hl
    exact a1
   ·obtain⟨rfl,rfl,rfl⟩:u=cx b c∧v=cy b c∧m = -(rl b c).1:=by simpa using hl
    omega
end
def ahy:List Int→Int
 |[]=>0
 |[a]=>a
 |a::b::t=>max a (ahy (b::t))
def U3:∀{l:List Int},l≠[]→(∀a∈l,a≤ahy l)∧ahy l∈l
 |[],h=>absurd rfl h
 |[a],_=>⟨fun x hx=>by rw[cP] at hx; rw[hx]; exact dP _,by simp[ahy]⟩
 |a::b::t,_=>by
  obtain⟨h1,h2⟩:=U3 (l:=b::t) (by simp);have e:ahy (a::b::t)=max a (ahy (b::t)):=rfl;rw[e];constructor
  ·intro x hx;rcases cN.1 hx with rfl|hx
   ·omega
   ·have:=h1 x hx; omega
  ·rcases Int.le_total a (ahy (b::t)) with h|h
   ·rw[Int.max_eq_right h]; exact di _ h2
   ·rw[Int.max_eq_left h]; exact List.mem_cons_self
section
variable {b:ò}
def ack (b:ò) (f:Int→Int→Int) (z:Int) (v:Int):Int:=if v=0 then z else match (Ñ b)[(v-1).toNat]? with|some n=>f n.1 n.2|none=>0
def EG (f:Int→Int→Int) (z:Int):ack b f z 0=z:=by unfold ack; rw[if_pos rfl]
def Lf (h:Ő b) (f:Int→Int→Int) (z:Int) {g:ï} (hg:g∈b.2.1) {d:Int} (hd:d∈é b g):ack b f z (iK b g.1 d)=f g.1 d:=by
 obtain⟨i,hi,rfl⟩:=List.mem_iff_getElem.1 hg;obtain⟨k,hk,rfl⟩:=List.mem_iff_getElem.1 hd;have hgi:=List.getElem?_eq_getElem hi;have hdk:=List.getElem?_eq_getElem hk;rw[tf h hgi hdk];unfold ack
 have e:((off b i:Int)+k+1-1).toNat=off b i+k:=by omega
 rw[if_neg (by omega),e,agb hgi hdk]
def WS (b:ò) (l:List Int) (d:Int):Int:=match l with|[]=>0|x::_=>iK b x d
def aaT (l:List Int) (d:Int):atP (Ñ b) l d=WS b l d:=by
 unfold atP WS iK
 cases l<;>rfl
def aeJ (c:Cmp):cx b c=WS b (ù c.2.2.1 c.2.2.2.1) c.2.1:=aaT _ _
def aeI (c:Cmp):cy b c=WS b (ù c.2.2.2.1 c.2.2.1) c.2.1:=aaT _ _
def aad (h:Ő b) {c:Cmp} (hc:c∈b.2.2.2.2.1) {x:Int} (hx:x∈ù c.2.2.1 c.2.2.2.1∨x∈ù c.2.2.2.1 c.2.2.1):∃g∈b.2.1,g.1=x∧c.2.1∈é b g:=by
 have hx':(x∈c.2.2.1∧x∉c.2.2.2.1)∨(x∈c.2.2.2.1∧x∉c.2.2.1):=by
  rcases hx with hx|hx
  ·exact .inl (lO.1 hx)
  ·exact .inr (lO.1 hx)
 have hm:x∈c.2.2.1++c.2.2.2.1:=by rw[cM]; exact hx'.imp (·.1) (·.1)
 obtain⟨⟨g,hg,_⟩,_⟩:=h.pile hc hm;obtain⟨hgm,hid⟩:=Š hg;refine⟨g,hgm,hid,ε.2 (.inr (.inl ⟨c,hc,?_,rfl⟩))⟩;rw[hid];intro he;rw[gH,eV,eV] at he;rcases hx' with⟨a,e⟩|⟨a,e⟩
 ·exact e (he.1 a)
 ·exact e (he.2 a)
def fill (b:ò) (p:Int→Int) (g:ï) (d:Int):Int:=ahy ((é b g).map fun e=>if d≤e then p (iK b g.1 e) else p (iK b g.1 e)-jF b g e d)
def NE {p:Int→Int} {g:ï} (d:Int):(∀e∈é b g,(if d≤e then p (iK b g.1 e) else p (iK b g.1 e)-jF b g e d)≤fill b p g d)∧∃e∈é b g,fill b p g d=if d≤e then p (iK b g.1 e) else p (iK b g.1 e)-jF b g e d:=by
 have hne:((é b g).map fun e=>if d≤e then p (iK b g.1 e) else p (iK b g.1 e)-jF b g e d)≠[]:=by
  intro h;have:=List.map_eq_nil_iff.1 h;have h2:=uA (b:=b) g;rw[this] at h2;cases h2
 obtain⟨h1,h2⟩:=U3 hne;refine⟨fun e he=>h1 _ (dt.2 ⟨e,he,rfl⟩),?_⟩;obtain⟨e,he,hx⟩:=dt.1 h2;exact⟨e,he,hx.symm⟩
def aax (h:Ő b) {p:Int→Int} {g:ï} (hg:g∈b.2.1) (hf:wT b p g) {d:Int} (hd:d∈é b g):fill b p g d=p (iK b g.1 d):=by
 obtain⟨h1,e,he,h2⟩:=NE (b:=b) (p:=p) (g:=g) d;have h3:=h1 d hd;rw[if_pos (dP _)] at h3
 have h4:fill b p g d≤p (iK b g.1 d):=by
  rw[h2]
  split
  ·rename_i hde;exact hf.down d e hd he hde
  ·rename_i hde;have:=hf.loss e d he hd (by omega);omega
 omega
def Ww (h:Ő b) {p:Int→Int} {g:ï} (hg:g∈b.2.1) (hf:wT b p g) {d e:Int} (h0:g.2.1≤d) (hde:d≤e):fill b p g e≤fill b p g d∧fill b p g d≤fill b p g e+jF b g d e:=by
 obtain⟨a1,x,hx,a2⟩:=NE (b:=b) (p:=p) (g:=g) d;obtain⟨b1,y,hy,b2⟩:=NE (b:=b) (p:=p) (g:=g) e;have hm:=(h.gaugeR hg).2.2.2.2.1;have hl:=sd h hg (f:=d) (t:=e) (by omega);have dx:=h.day hg hx;have dy:=h.day hg hy;constructor
 ·have q:=a1 y hy;rw[b2]
  by_cases c1:e≤y
  ·rw[if_pos c1];rw[if_pos (by omega)] at q;exact q
  ·rw[if_neg c1]
   by_cases c2:d≤y
   ·rw[if_pos c2] at q;have:=sd h hg (f:=y) (t:=e) dy.2.1;omega
   ·rw[if_neg c2] at q;have:=Gq h g (f:=y) (t:=d) (u:=e) (by omega) hde;omega
 ·have q:=b1 x hx;rw[a2]
  by_cases c1:d≤x
  ·rw[if_pos c1]
   by_cases c2:e≤x
   ·rw[if_pos c2] at q;omega
   ·rw[if_neg c2] at q;have:=Gq h g (f:=d) (t:=x) (u:=e) c1 (by omega);have:=sd h hg (f:=d) (t:=x) (by omega);omega
  ·rw[if_neg c1];rw[if_neg (by omega)] at q;have:=Gq h g (f:=x) (t:=d) (u:=e) (by omega) hde;omega
end
section
variable {b:ò} {c:Cmp}
def acd {b':ò} (h':Ő b') {l:List Int} {day:Int} (f:Int→Int→Int) (z:Int) (hl:∀x∈l,∃g∈b'.2.1,g.1=x∧day∈é b' g):ack b' f z (WS b' l day)=match l with|[]=>z|x::_=>f x day:=by
 unfold WS
 cases l with
 |nil=>exact EG f z
 |cons x t =>
  obtain⟨g,hg,rfl,hd⟩:=hl x (by simp);exact Lf h' f z hg hd
end
section
variable {L:List Lk} {N:Nat}
def Wl.app {u v:Int} {vs:List Int} {d:Int} (h1:Wl L (fun x=>x=u) vs v d) {ws:List Int} {w e:Int} (h2:Wl L (fun x=>x=v) ws w e):∃xs,Wl L (fun x=>x=u) xs w (d+e):=by
 induction h2 with
 |nil h=>subst h; exact⟨vs,by rw[gy]; exact h1⟩
 |step hw hx ih =>
  obtain⟨xs,hi⟩:=ih;have:=Wl.step hi hx;rw[Int.add_assoc] at this;exact⟨_,this⟩
def dst (L:List Lk) (N:Nat) (s t:Int):Int:=gv (qi L N s) t
def aeA (h:kh L N) (ht:W6 L N) (ho:jo L N=true) {s t:Int} (hs:0≤s∧s<N) (hv:0≤t∧t<N):dst L N s t≤9007199254740992:=by
 have h2:=h.n60;obtain⟨p,hp⟩:=(pe h.links (by omega)).1 ho;obtain⟨vs,d,hw,hd⟩:=ht.from' s hs.1 hs.2;obtain⟨ws,e,hx,he⟩:=ht.to t hv.1 hv.2;obtain⟨xs,hy⟩:=Wl.app hw hx;have:=(Em h.links (by omega) hp hs).low t xs _ (ahv.2 hy);unfold dst;omega
def ahI (h:kh L N) (ht:W6 L N) (ho:jo L N=true) {s t:Int} (hs:0≤s∧s<N) (hv:0≤t∧t<N):dst L N s t≠ŵ:=by
 have:=aeA h ht ho hs hv;unfold ŵ;omega
def TD (h:kh L N) (ht:W6 L N) (ho:jo L N=true) {s t:Int} (hs:0≤s∧s<N) (hv:0≤t∧t<N) {p:Int→Int} (hp:Pot L p):p t-p s≤dst L N s t:=by
 have h2:=h.n60;obtain⟨vs,hw⟩:=(Em h.links (by omega) hp hs).att t hv.1 hv.2 (ahI h ht ho hs hv);obtain⟨u,hu,hx⟩:=(ahv.1 hw).pot hp;subst hu;exact hx
def aez (h:kh L N) (ht:W6 L N) (ho:jo L N=true) {x y:Int} (hx:0≤x∧x<N) (hy:0≤y∧y<N) : -(dst L N x y)≤dst L N y x:=by
 have h2:=h.n60;obtain⟨p,hp⟩:=(pe h.links (by omega)).1 ho;have a1:=TD h ht ho hx hy hp;have a2:=TD h ht ho hy hx hp;omega
def ahJ (h:kh L N) (ht:W6 L N) (ho:jo L N=true) {s t:Int} (hs:0≤s∧s<N) (hv:0≤t∧t<N) : -9007199254740992≤dst L N s t∧dst L N s t≤9007199254740992:=by
 have a1:=aeA h ht ho hs hv;have a2:=aeA h ht ho hv hs;have a3:=aez h ht ho hv hs;omega
def acj (h:kh L N) (ht:W6 L N) {s t:Int} (hs:0≤s∧s<N) (hv:0≤t∧t<N):Xg L N s t=if jo L N then(dst L N s t,0) else(0,9):=by
 unfold Xg
 by_cases ho:jo L N=true
 ·have hne:=ahI h ht ho hs hv;unfold dst at hne ⊢;rw[if_neg (by simp[ho]),if_neg hne,if_pos ho]
 ·rw[if_pos (by simpa using ho),if_neg ho]
end
def XE (f:Int→Int→Int) (z:Int) (l:List Int) (d:Int):Int:=match l with|[]=>z|x::_=>f x d
def PI (f:Int→Int→Int) (z:Int) (c:Cmp):Int:=XE f z (ù c.2.2.1 c.2.2.2.1) c.2.1-XE f z (ù c.2.2.2.1 c.2.2.1) c.2.1
structure ahi (b:ò) (f:Int→Int→Int) (z:Int) (g:ï):Prop where
 hi:f g.1 g.2.1≤z+(g.2.2.1+g.2.2.2.1.2)
 lo:z+(g.2.2.1+g.2.2.2.1.1)≤f g.1 g.2.1
 down:∀d e,g.2.1≤d→d≤e→f g.1 e≤f g.1 d
 loss:∀d e,g.2.1≤d→d≤e→f g.1 d≤f g.1 e+jF b g d e
structure Xp (b:ò) (f:Int→Int→Int) (z:Int):Prop where
 gauge:∀g∈b.2.1,ahi b f z g
 cmp:∀c∈b.2.2.2.2.1,(rl b c).1≤PI f z c∧PI f z c≤(rl b c).2
def aet {b:ò} (h:Ő b) {p:Int→Int} (hg:∀g∈b.2.1,wT b p g):∃f:Int→Int→Int,(∀g∈b.2.1,ahi b f (p 0) g)∧∀g∈b.2.1,∀d∈é b g,f g.1 d=p (iK b g.1 d):=by
 let f:Int→Int→Int:=fun id d=>match ç b id with|some g=>fill b p g d|none=>0
 have hfv:∀g∈b.2.1,∀d,f g.1 d=fill b p g d:=fun g hgm d=>by
  show(match ç b g.1 with|some g=>fill b p g d|none=>0)=_;rw[sk h.ids hgm]
 refine⟨f,fun g hgm=>?_,fun g hgm d hd=>by rw[hfv g hgm]; exact aax h hgm (hg g hgm) hd⟩;have gf:=hg g hgm
 have e0:f g.1 g.2.1=p (iK b g.1 g.2.1):=by rw[hfv g hgm]; exact aax h hgm gf (uA g)
 refine⟨by rw[e0]; exact gf.hi,by rw[e0]; exact gf.lo,fun d e h0 hde=>?_,fun d e h0 hde=>?_⟩
 ·rw[hfv g hgm,hfv g hgm];exact(Ww h hgm gf h0 hde).1
 ·rw[hfv g hgm,hfv g hgm];exact(Ww h hgm gf h0 hde).2
def Uq {b:ò} {f:Int→Int→Int} {p:Int→Int} (hm:∀g∈b.2.1,∀d∈é b g,f g.1 d=p (iK b g.1 d)) {l:List Int} {day:Int} (hl:∀x∈l,∃g∈b.2.1,g.1=x∧day∈é b g):p (WS b l day)=XE f (p 0) l day:=by
 cases l with
 |nil=>rfl
 |cons x t =>
  obtain⟨g,q1,rfl,q3⟩:=hl x (by simp);exact(hm g q1 day q3).symm
def aeD {b:ò} {f:Int→Int→Int} {p:Int→Int} (hm:∀g∈b.2.1,∀d∈é b g,f g.1 d=p (iK b g.1 d)) {c:Cmp}
 (hl:∀x,x∈ù c.2.2.1 c.2.2.2.1∨x∈ù c.2.2.2.1 c.2.2.1→∃g∈b.2.1,g.1=x∧c.2.1∈é b g):p (cx b c)-p (cy b c)=PI f (p 0) c:=by
 unfold PI;rw[aeJ,aeI,Uq hm (fun x hx=>hl x (.inl hx)),Uq hm (fun x hx=>hl x (.inr hx))]
def PX {b:ò} (h:Ő b) (f:Int→Int→Int) (z:Int) {l:List Int} {day:Int} (hl:∀x∈l,∃g∈b.2.1,g.1=x∧day∈é b g):ack b f z (WS b l day)=XE f z l day:=by
 rw[acd h f z hl];unfold XE
 cases l<;>rfl
def adb {b:ò} (h:Ő b) {f:Int→Int→Int} {z:Int} {c:Cmp} (hl:∀x,x∈ù c.2.2.1 c.2.2.2.1∨x∈ù c.2.2.2.1 c.2.2.1→∃g∈b.2.1,g.1=x∧c.2.1∈é b g):ack b f z (cx b c)-ack b f z (cy b c)=PI f z c:=by
 unfold PI;rw[aeJ,aeI,PX h f z (fun x hx=>hl x (.inl hx)),PX h f z (fun x hx=>hl x (.inr hx))]
def abo {b:ò} (h:Ő b) {f:Int→Int→Int} {z:Int} {g:ï} (hg:g∈b.2.1) (hh:ahi b f z g):wT b (ack b f z) g:=by
 have q:∀d∈é b g,ack b f z (iK b g.1 d)=f g.1 d:=fun d hd=>Lf h f z hg hd;have e0:=q g.2.1 (uA g);refine⟨?_,?_,fun d e hd he hde=>?_,fun d e hd he hde=>?_⟩
 ·rw[e0,EG]; exact hh.hi
 ·rw[e0,EG]; exact hh.lo
 ·rw[q d hd,q e he]; exact hh.down d e (h.day hg hd).1 hde
 ·rw[q d hd,q e he]; exact hh.loss d e (h.day hg hd).1 hde
section
variable {b:ò} {c:Cmp}
def af3 (h:Ő b) {p:Int→Int} (hp:Pot (Τ b) p):∃f,Xp b f (p 0)∧∀g∈b.2.1,∀d∈é b g,f g.1 d=p (iK b g.1 d):=by
 obtain⟨hg,hc⟩:=(adc h).1 hp;obtain⟨f,hf,hm⟩:=aet h hg;refine⟨f,⟨hf,fun c hcm=>?_⟩,hm⟩;have:=aeD hm (c:=c) (fun x hx=>aad h hcm hx);have:=hc c hcm;omega
def aal (h:Ő b) {f:Int→Int→Int} {z:Int} (hh:Xp b f z):Pot (Τ b) (ack b f z):=by
 refine(adc h).2 ⟨fun g hg=>abo h hg (hh.gauge g hg),fun c hc=>?_⟩;have:=adb (f:=f) (z:=z) h (c:=c) (fun x hx=>aad h hc hx);have:=hh.cmp c hc;omega
def zF (h:Ő b):jo (Τ b) ((Ñ b).length+1)=true↔∃f z,Xp b f z:=by
 have:=h.sys.n60;rw[pe h.sys.links (by omega)];constructor
 ·rintro⟨p,hp⟩;obtain⟨f,hf,_⟩:=af3 h hp;exact⟨f,_,hf⟩
 ·rintro⟨f,z,hh⟩;exact⟨_,aal h hh⟩
end
def agF {m:Ū} (h:Ő m.1) (p:Cmp→Bool):(acl m p).1=less m.1 ((m.1.2.2.2.2.1.filter fun c=>!p c).map fun c=>c.1):=by
 unfold acl less;dsimp only;congr 5;refine List.filter_congr fun c hc=>?_;rw[Bool.eq_iff_iff,Bool.not_eq_true',Bool.eq_false_iff,ne_eq,List.contains_iff_mem,List.mem_map];constructor
 ·rintro hp ⟨c',hc',e⟩;obtain⟨h1,h2⟩:=dH.1 hc'
  have:c'=c:=by
   obtain⟨i,hi,rfl⟩:=cS.1 h1;obtain⟨j,hj,rfl⟩:=cS.1 hc;have hd:=dl.1 h.distinct;rcases Nat.lt_trichotomy i j with hij|hij|hij
   ·exact absurd e (hd i j hi hj hij)
   ·subst hij; rfl
   ·exact absurd e.symm (hd j i hj hi hij)
  rw[this,hp] at h2;cases h2
 ·intro hn
  cases hp:p c with
  |true=>rfl
  |false=>exact absurd ⟨c,dH.2 ⟨hc,by simp[hp]⟩,rfl⟩ hn
def MOk.few {m:Ū} (h:MOk m) (p:Cmp→Bool):MOk (acl m p):=by
 refine⟨?_,h.n4,h.mixE,h.prod⟩;rw[agF h.good];exact h.good.less _
def aak {b b':ò} (h1:b'.1=b.1) (h2:b'.2.1=b.2.1) (h3:b'.2.2.1=b.2.2.1) (h4:b'.2.2.2.1=b.2.2.2.1) (h5:∀c∈b'.2.2.2.2.1,c∈b.2.2.2.2.1) {f:Int→Int→Int} {z:Int} (hh:Xp b f z):Xp b' f z:=by
 have hl:∀g d e,jF b' g d e=jF b g d e:=fun g d e=>by unfold jF i6; rw[h3,h4]
 have hs:∀c,rl b' c=rl b c:=fun c=>by
  unfold rl ut nD Lc ĕ;rw[h1,h2]
 refine⟨fun g hg=>?_,fun c hc=>by rw[hs]; exact hh.cmp c (h5 c hc)⟩;have:=hh.gauge g (by rw[←h2]; exact hg);exact⟨this.hi,this.lo,this.down,fun d e a b=>by rw[hl]; exact this.loss d e a b⟩
def agH {m m':Ū} {w:Way} (h:MOk m) (h':MOk m') (hw:Į m.2 w) (e1:m'.1.1=m.1.1) (e2:m'.1.2.1=m.1.2.1) (e3:m'.1.2.2.1=m.1.2.2.1) (e4:m'.1.2.2.2.1=m.1.2.2.2.1) (e5:∀c∈m'.1.2.2.2.2.1,c∈m.1.2.2.2.2.1) (e7:m'.2=m.2)
 (he:sZ m w=true):sZ m' w=true:=by
 have hw':Į m'.2 w:=e7▸hw;obtain⟨f,z,hh⟩:=(zF (rh h hw)).1 he;refine(zF (rh h' hw')).2 ⟨f,z,aak ?_ ?_ ?_ ?_ ?_ hh⟩
 ·exact e1
 ·exact e2
 ·show m'.1.2.2.1.map _=m.1.2.2.1.map _;rw[e3,e7]
 ·show m'.1.2.2.2.1.map _=m.1.2.2.2.1.map _;rw[e4,e7]
 ·intro c hc;obtain⟨c0,h0,rfl⟩:=dt.1 (show c∈m'.1.2.2.2.2.1.map (Xo m' w) from hc)
  have:Xo m' w c0=Xo m w c0:=by unfold Xo nV; rw[e7]
  rw[this];exact dt.2 ⟨c0,e5 c0 h0,rfl⟩
def afT {m:Ū} (h:MOk m) {p q:Cmp→Bool} (hpq:∀c∈m.1.2.2.2.2.1,p c=true→q c=true) (hs:vw (acl m q)=true):vw (acl m p)=true:=by
 unfold vw at hs ⊢;obtain⟨w,hw,he⟩:=List.any_eq_true.1 hs;refine List.any_eq_true.2 ⟨w,hw,?_⟩
 exact agH (h.few q) (h.few p) (vv.1 hw) rfl rfl rfl rfl (fun c hc=>by
  obtain⟨h1,h2⟩:=dH.1 (show c∈m.1.2.2.2.2.1.filter p from hc)
  exact dH.2 ⟨h1,hpq c h1 h2⟩) rfl he
def aiK {m:Ū} {p:Cmp→Bool} (hp:∀c∈m.1.2.2.2.2.1,p c=true):acl m p=m:=by
 unfold acl;rw[List.filter_eq_self.2 hp]
section
variable {m:Ū} {ρ:Type}
def Dc (h:MOk m) (ids:List Int):ü (XU m ids)=some (QF (XU m ids)):=uz (h.few _)
def BZ (m:Ū) (ids:List Int):Bool×Int:=if ζ m≠0 then(false,ζ m) else(vw (XU m ids),0)
def Xe (hs:In m.1) (hn:m.2.length≤1000) {ids:List Int} (hi:ids.length≤1000000):nI m ids=some (BZ m ids):=by
 unfold nI xE BZ;rw[oZ hs hn,À]
 by_cases hc:ζ m=0
 ·have h:=(Ι m).1 hc;rw[Ò (by simp[ine,hc]),if_neg (by simp[hc]),adq hs.size.compares hi,À,Dc h ids,À,sl]
 ·rw[Ü (by simp[ine,hc]),if_pos hc]
def mQ (b:ò) (id d:Int):Int:=if !GW d then 1 else if (ç b id).isNone then 5 else 0
def aaf (hn:m.1.2.1.length≤1000) (id d:Int):AU m id d=some (mQ m.1 id d):=by
 unfold AU LO mQ
 by_cases h:GW d=true
 ·have h':=h;simp only[GW,inP,cH,decide_eq_true_eq] at h';rw[h,Ò (by simp[ilt]; omega),Ò (by simp[igt]; omega),if_neg (by simp)];refine eW (ks m.1.2.1 (fun g=>g.1==id) (fun z=>ifb (!(ige z (0:Int))) (some 5) (some 0)) (some 0) (some 5) (fun j=>Ò (by simp[ige]) _ _) (fun i a hi ha kn=>?_) (fun kn=>?_)) ?_
  ·try dsimp only
   unfold tD;rw[Õ hi,È ha,Î hi (by omega),Ķ]
  ·try dsimp only
   unfold tD;rw[â]
  ·unfold ç
   cases hf:m.1.2.1.find? (fun g=>g.1==id) with
   |none =>
    rw[if_neg]
    ·rfl
    rw[du];rintro⟨g,hg,e⟩;exact absurd e (by simpa using(dU.1 hf) g hg)
   |some g =>
    rw[if_pos]
    ·rfl
    have hp:=fP hf;exact du.2 ⟨g,ft hf,hp⟩
 ·have h':=h;simp only[GW,inP,cH,decide_eq_true_eq,not_and,Int.not_le] at h';rw[if_pos (by simp[h])];rw[Ķ,Ķ];simp only[ilt,igt,decide_eq_true_eq]
  split
  ·rfl
  ·rw[if_pos (by have:=h' (by omega); omega)]
def N6 (label:Int) (c:Cmp):Bool:=(ù c.2.2.1 c.2.2.2.1).contains label||(ù c.2.2.2.1 c.2.2.1).contains label
def kH (m:Ū) (label:Int):Bool×Int:=if ζ m≠0 then(false,ζ m) else if mQ m.1 label 0≠0 then(false,mQ m.1 label 0) else(!vw (acl m (N6 label)),0)
def W0 (hs:In m.1) (hn:m.2.length≤1000) (label:Int):nH m label=some (kH m label):=by
 unfold nH xB kH;rw[oZ hs hn,À]
 by_cases hc:ζ m=0
 ·have h:=(Ι m).1 hc;have hC:=h.good.nC;rw[Ò (by simp[ine,hc]),if_neg (by simp[hc]),aaf hs.size.gauges,À]
  by_cases hk:mQ m.1 label 0=0
  ·rw[Ò (by simp[ine,hk]),if_neg (by simp[hk]),ÿ (Ú (by omega))]
   have hcan:∀c∈m.1.2.2.2.2.1,rc c.2.2.1 c.2.2.2.1=some (ù c.2.2.1 c.2.2.2.1,ù c.2.2.2.1 c.2.2.1,0)∧(ù c.2.2.1 c.2.2.2.1).length≤1000000∧(ù c.2.2.2.1 c.2.2.1).length≤1000000:=fun c hc=>by
    obtain⟨p1,p2⟩:=h.good.size.piles c hc;have hnum:=(jp c).1 (h.good.nums hc);have l1:=Gs c.2.2.1 c.2.2.2.1;have l2:=Gs c.2.2.2.1 c.2.2.1;refine⟨?_,by omega,by omega⟩;rw[afC (by omega) (by omega),Zl,hnum.2.2.2.2.2.1,hnum.2.2.2.2.2.2]; rfl
   have hK:∀l,l=m.1.2.2.2.2.1.filter (N6 label)→Ä (ü ((m.1.1,m.1.2.1,m.1.2.2.1,m.1.2.2.2.1,l,m.1.2.2.2.2.2),m.2)) (fun r24=>some ((!r24.2),(0:Int)))=some (!vw (acl m (N6 label)),0):=fun l hl=>by
    subst hl;have:=uz (h.few (N6 label));unfold acl at this ⊢;rw[this,À,sl]
   refine eW (YW (a:=m.1.2.2.2.2.1) (N6 label) (K:=fun l=>Ä (ü ((m.1.1,m.1.2.1,m.1.2.2.1,m.1.2.2.2.1,l,m.1.2.2.2.2.2),m.2)) fun r24=>some ((!r24.2),(0:Int))) (k0:=aeE zC fun l=>Ä (ü ((m.1.1,m.1.2.1,m.1.2.2.1,m.1.2.2.2.1,l,m.1.2.2.2.2.2),m.2)) fun r24=>some ((!r24.2),(0:Int)))
    (kf:=fun z9=>ifb (ieq z9 (-1:Int)) (Ä (ü m) fun r10=>some ((!r10.2),(0:Int))) (ck (z9+(1:Int)) fun n11=>Í (fun(v25:Int×Int×List Cmp) kk29=>ψ label v25.1 v25.2.1 v25.2.2 (fun u26 u27 u28=>kk29 (u26,u27,u28)) (aeE zC fun l=>Ä (ü ((m.1.1,m.1.2.1,m.1.2.2.1,m.1.2.2.2.1,l,m.1.2.2.2.2.2),m.2)) fun r24=>some ((!r24.2),(0:Int)))) (z9,n11,m.1.2.2.2.2.1)))
    (F:=fun a b c kn=>ψ label a b c kn (aeE zC fun l=>Ä (ü ((m.1.1,m.1.2.1,m.1.2.2.1,m.1.2.2.2.1,l,m.1.2.2.2.2.2),m.2)) fun r24=>some ((!r24.2),(0:Int)))) (kend:=Ä (ü m) fun r10=>some ((!r10.2),(0:Int))) (fun i x hi hx kn=>?_) (fun kn=>?_) rfl (fun z hz=>?_) (fun i j s x hs hij hj hx hxa kn=>?_) (fun i s kn hi hs=>?_) (fun i s hi=>YX _ _ hi)) (hK _ rfl)
   ·try dsimp only
    unfold mb;obtain⟨c1,c2,c3⟩:=hcan x (List.mem_of_getElem? hx);rw[Õ hi,Ε hi,ġ hx,c1,À,ů c2,À,ů c3,À];unfold N6
    cases(ù x.2.2.1 x.2.2.2.1).contains label<;>cases(ù x.2.2.2.1 x.2.2.1).contains label<;>simp only[md,ë,dD,eQ,Bool.or_true,Bool.or_false,if_true,cX,if_false]<;>first|rfl|rw[Î hi (by omega)]
   ·try dsimp only
    unfold mb;rw[â]
   ·rw[Ò (by simp[ieq]),Î hz (by omega)]
   ·try dsimp only
    unfold ψ;obtain⟨c1,c2,c3⟩:=hcan x hxa;have hx2:s[i]?=some s[i]:=List.getElem?_eq_getElem (by omega);rw[Õ hj,show ú s=((s.length:Nat):Int) from rfl,Ε hj,ġ hx,c1,À,ů c2,À,ů c3,À];unfold N6
    cases(ù x.2.2.1 x.2.2.2.1).contains label<;>cases(ù x.2.2.2.1 x.2.2.1).contains label<;>simp only[md,ë,dD,eQ,Bool.or_true,Bool.or_false,if_true,cX,if_false]<;>first|rw[Î hj (by omega)]|rw[Ε (by omega),ġ hx2,Î (show i<s.length by omega) (by omega),Î hj (by omega),cT]
   ·try dsimp only
    unfold ψ;rw[â]
  ·rw[Ü (by simp[ine,hk]),if_pos hk]
 ·rw[Ü (by simp[ine,hc]),if_pos hc]
def ahE (m:Ū):List Int:=m.1.2.2.2.2.1.map fun c=>c.1
def aeN (m:Ū):Nat→List Int→List Int
 |0,l=>l
 |i+1,l=>aeN m i (if vw (XU m (l.take i++l.drop (i+1))) then l else l.take i++l.drop (i+1))
def ahk (m:Ū):List Int×Int:=if ζ m≠0 then([],ζ m) else if vw m then([],5) else(aeN m (ahE m).length (ahE m),0)
def aja (hs:In m.1) (hn:m.2.length≤1000):GQ m=some (ahk m):=by
 unfold GQ R0 ahk;rw[oZ hs hn,À]
 by_cases hc:ζ m=0
 ·have h:=(Ι m).1 hc;have hC:=h.good.nC;have hm:((((m.1.1.1,m.1.1.2),m.1.2.1,m.1.2.2.1,m.1.2.2.2.1,m.1.2.2.2.2.1,m.1.2.2.2.2.2),m.2):Ū)=m:=rfl;rw[Ò (by simp[ine,hc]),if_neg (by simp[hc]),uz h,À,sl]
  cases vw m with
  |true=>rfl
  |false =>
   simp only[ë,cX,if_false]
   have hl:(ahE m).length=m.1.2.2.2.2.1.length:=by unfold ahE; simp
   refine eW (qC m.1.2.2.2.2.1 (fun c=>c.1) (fun z5=>ck ((à z5)-(1:Int)) fun n6=>Í (fun(v14:List Int×Int) kk17=>rM m.1.1.1 m.1.1.2 m.1.2.1 m.1.2.2.1 m.1.2.2.2.1 m.1.2.2.2.2.1 m.1.2.2.2.2.2 m.2 v14.1 v14.2 (fun u15 u16=>kk17 (u15,u16)) (fun z13=>some (z13,(0:Int)))) (z5,n6)) (fun i a hi ha v kn hv=>?_) (fun v kn=>?_)) ?_
   ·try dsimp only
    unfold xF;rw[Õ hi,È ha,ÿ (Ú (by simp; omega)),Î hi (by omega)]
   ·try dsimp only
    unfold xF;rw[â]
   ·show(ck ((à (ahE m))-(1:Int)) fun n6=>Í _ (ahE m,n6))=_;rw[Ý,Ð (by omega) (by omega)];refine đ (fun x:List Int×Int=>∃i:Nat,x.2=(i:Int)-1∧i≤x.1.length∧x.1.length≤40∧aeN m i x.1=aeN m (ahE m).length (ahE m)) (fun x=>(x.2+1).toNat) ?_ ⟨_,rfl,Nat.le_refl _,by dsimp only; omega,rfl⟩;rintro⟨l,x2⟩ ⟨i,h1,hil,hl40,hco⟩;simp only at h1 hil hl40 hco;subst h1
    cases i with
    |zero =>
     refine .inl fun kn=>?_
     try dsimp only
     unfold rM;rw[Ò (by simp[ige]),←hco]; rfl
    |succ i =>
     have e0:((i+1:Nat):Int)-1=i:=by omega
     have hlen:(l.take i++l.drop (i+1)).length=l.length-1:=by simp; omega
     rw[aeN] at hco;refine .inr ⟨(if vw (XU m (l.take i++l.drop (i+1))) then l else l.take i++l.drop (i+1),(i:Int)-1),⟨i,rfl,?_,?_,hco⟩,by simp only[e0]; omega,fun kn=>?_⟩
     ·dsimp only; split<;>omega
     ·dsimp only; split<;>omega
     ·try dsimp only
      unfold rM;rw[e0,Ü (by simp[ige]),ÿ (by simp[ile,ú]; omega),Ð (by omega) (by omega),ÿ (by simp[ile,ú]; omega),Int.toNat_natCast,show Int.toNat ((i:Int)+1)=i+1 by omega,Og (by simp; omega) (by simp; omega),À,hm,adq (by omega) (by omega),À,Dc h,À,sl,Ķ,Ð (by omega) (by omega),Ð (by omega) (by omega)]
      cases vw (XU m (l.take i++l.drop (i+1)))<;>rfl
 ·rw[Ü (by simp[ine,hc]),if_pos hc]
end
def Kg (b:ò) (x d:Int):Int:=match la (Ñ b) x d with|some j=>(j:Int)+1|none=>0
def Ha (b:ò) (n:Int×Int):Int×Int:=if ě b≠0 then(0,ě b) else if Kg b n.1 n.2=0 then(0,5) else(Kg b n.1 n.2,0)
def Bk {b:ò} (h:In b) (n:Int×Int):iY b n=some (Ha b n):=by
 have hl:=P5 h.size;unfold iY Nc Ha;rw[qO h.size h.num,À]
 by_cases hc:ě b=0
 ·rw[Ò (by simp[ine,hc]),if_neg (show ¬(ě b≠0) from fun h=>h hc),Rv h.size,À,show û (Ñ b) n=û (Ñ b) (n.1,n.2) from rfl,Xc (by omega),À];unfold Kg
  cases hx:la (Ñ b) n.1 n.2 with
  |none=>rfl
  |some j =>
   have:=(mC hx).1;simp only;rw[Ò (by simp[ilt]),Ð (by omega) (by omega),if_neg (by omega)]
 ·rw[Ü (by simp[ine,hc]),if_pos hc]
def ţ (b:ò) (n:Int×Int):ò:=(b.1,b.2.1,b.2.2.1,b.2.2.2.1,b.2.2.2.2.1,b.2.2.2.2.2++[n])
def adN {b:ò} (h:Ő b) (n:Int×Int):yN (ţ b n):=by
 have hs:=h.size;have:=h.nK;exact⟨hs.gauges,hs.uses,hs.loans,hs.compares,by simp[ţ]; omega,hs.piles⟩
def Zi (b:ò) (n:Int×Int):ò×Int:=if ě b≠0 then(IR,ě b) else if ě (ţ b n)≠0 then(IR,ě (ţ b n)) else(ţ b n,0)
def afx {b:ò} (h:In b) (n:Int×Int):yo b n=some (Zi b n):=by
 have hs:=h.size;have h1:=hs.gauges; have h2:=hs.uses; have h3:=hs.loans; have h4:=hs.compares; have h5:=hs.looks;unfold yo Tb Zi;rw[qO hs h.num,À]
 by_cases hc:ě b=0
 ·have hg:=(ė b).1 hc;rw[Ò (by simp[ine,hc]),Ú (by omega),Am.iff_true,Ú (by omega),Am.iff_true,Ú (by omega),Am.iff_true,Ú (by omega),Am.iff_true,Ú (by omega),Am.iff_true,if_neg (show ¬(ě b≠0) from fun h=>h hc)];refine ĵ b.2.2.2.2.1 (fun _=>b.2.2.2.2.1) _ rfl (fun i d hi hd kn=>?_) (fun kn=>?_)
  ·dsimp only;unfold yh;obtain⟨p1,p2⟩:=hs.piles d (List.mem_of_getElem? hd)
   have e1:b.2.2.2.2.1.set i d=b.2.2.2.2.1:=by
    obtain⟨h,rfl⟩:=cI.1 hd;exact List.set_getElem_self h
   rw[Õ hi,Ε hi,ġ hd,Ú (by omega),Am.iff_true,Ú (by omega),Am.iff_true,Ε hi,ġ hd,cT];rw[show(d.1,d.2.1,d.2.2.1,d.2.2.2)=d from rfl,e1,Ε hi,i9 hd,Î hi (by omega)];rw[show(d.1,d.2.1,d.2.2.1,d.2.2.2.1,d.2.2.2.2)=d from rfl,e1]
  ·try dsimp only
   unfold yh;rw[â];dsimp only;rw[Ú (by simp only[List.length_singleton]; omega),Am.iff_true];rw[show Ř (b.1,b.2.1,b.2.2.1,b.2.2.2.1,b.2.2.2.2.1,b.2.2.2.2.2++[n])=Ř (ţ b n) from rfl,qO (adN hg n) h.num,À]
   by_cases hc2:ě (ţ b n)=0
   ·rw[Ò (by simp[ine,hc2]),if_neg (show ¬(ě (ţ b n)≠0) from fun h=>h hc2)];rfl
   ·rw[Ü (by simp[ine,hc2]),if_pos hc2];rfl
 ·rw[Ü (by simp[ine,hc]),if_pos hc];rfl
def g8 (b:ò) (n:Int×Int):ò×Int:=if Kg b n.1 n.2≠0 then(b,0) else if ě (ţ b n)≠0 then(IR,ě (ţ b n)) else(ţ b n,0)
def i7:ò→List (Int×Int)→ò×Int
 |b,[]=>(b,0)
 |b,n::t=>if (g8 b n).2≠0 then(IR,(g8 b n).2) else i7 (g8 b n).1 t
def wS (b:ò) (ns:List (Int×Int)):ò×Int :=
 if ě b≠0 then(IR,ě b) else if (i7 b ns).2≠0 then(IR,(i7 b ns).2) else
 if jo (Τ (i7 b ns).1) ((Ñ (i7 b ns).1).length+1) then((i7 b ns).1,0) else(IR,9)
def Ul {b:ò} (h:Ő b) {n:Int×Int} (e:(g8 b n).2=0):Ő (g8 b n).1:=by
 unfold g8 at e ⊢
 split
 ·exact h
 ·rename_i h1;rw[if_neg h1] at e
  split
  ·rename_i h2;rw[if_pos h2] at e;exact absurd e h2
  ·rename_i h2;exact(ė _).1 (by simpa using h2)
def XA {b:ò} {n:Int×Int} (e:(g8 b n).2=0):(g8 b n).1.2.1=b.2.1:=by
 unfold g8 at e ⊢
 split
 ·rfl
 ·rename_i h1;rw[if_neg h1] at e
  split
  ·rename_i h2;rw[if_pos h2] at e;exact absurd e h2
  ·rfl
def K9:∀{ns:List (Int×Int)} {b:ò},Ő b→(i7 b ns).2=0→Ő (i7 b ns).1
 |[],b,h,_=>h
 |n::t,b,h,e=>by
  unfold i7 at e ⊢
  split
  ·rename_i h1; rw[if_pos h1] at e; exact absurd e h1
  ·rename_i h1;rw[if_neg h1] at e;exact K9 (Ul h (by simpa using h1)) e
def Dr:∀{ns:List (Int×Int)} {b:ò},(i7 b ns).2=0→(i7 b ns).1.2.1=b.2.1
 |[],b,_=>rfl
 |n::t,b,e=>by
  unfold i7 at e ⊢
  split
  ·rename_i h1; rw[if_pos h1] at e; exact absurd e h1
  ·rename_i h1;rw[if_neg h1] at e;rw[Dr e,XA (by simpa using h1)]
def Ő.inn {b:ò} (h:Ő b) (hn:∀g∈b.2.1,I64 g.2.2.2.2.1.1):In b:=⟨h.size,hn⟩
def W8 {b:ò} (h:Ő b):IW b=((((Ñ b).length:Int)+1,Τ b),ED b,0):=by
 unfold IW;rw[if_neg (by simp[(ė b).2 h])]
def Oe {b:ò} (h:Ő b) (n:Int×Int):Ha b n=if Kg b n.1 n.2=0 then(0,5) else(Kg b n.1 n.2,0):=by
 unfold Ha;rw[if_neg (by simp[(ė b).2 h])]
abbrev afA:Type:=Int×Int×List ï×List (Int×Int)×List IX×List Cmp×List (Int×Int)
def flat (b:ò):afA:=(b.1.1,b.1.2,b.2.1,b.2.2.1,b.2.2.2.1,b.2.2.2.2.1,b.2.2.2.2.2)
def aen (b:ò):(((flat b).1,(flat b).2.1),(flat b).2.2)=b:=rfl
section
variable {ρ:Type}
def ail (ns:List (Int×Int)) (E1:Int×afA→Option ρ) (K1:afA→Option ρ) (b:ò):Option ρ :=
 Í (fun(v:Int×afA) kk=>jX (à ns) ns v.1 v.2.1 v.2.2.1 v.2.2.2.1 v.2.2.2.2.1 v.2.2.2.2.2.1 v.2.2.2.2.2.2.1 v.2.2.2.2.2.2.2 (fun u1 u2 u3 u4 u5 u6 u7 u8=>kk (u1,u2,u3,u4,u5,u6,u7,u8)) (fun z=>E1 z) (fun z=>K1 z)) ((0:Int),b.1.1,b.1.2,b.2.1,b.2.2.1,b.2.2.2.1,b.2.2.2.2.1,b.2.2.2.2.2)
def ac3 {ns:List (Int×Int)} (hl:ns.length≤1000) {E1:Int×afA→Option ρ} {K1:afA→Option ρ} (R:Int→Option ρ) (h1:∀z,z.1≠0→E1 z=R z.1) {b:ò} (hg:Ő b) (hn:∀g∈b.2.1,I64 g.2.2.2.2.1.1) :
 ail ns E1 K1 b=if (i7 b ns).2≠0 then R (i7 b ns).2 else K1 (flat (i7 b ns).1):=by
 unfold ail
 refine KC ns (fun(i:Nat) (s:afA) (t:List (Int×Int))=>if (i7 ((s.1,s.2.1),s.2.2) t).2≠0 then R (i7 ((s.1,s.2.1),s.2.2) t).2 else K1 (flat (i7 ((s.1,s.2.1),s.2.2) t).1))
  (fun i s=>Ő ((s.1,s.2.1),s.2.2)∧∀g∈s.2.2.1,I64 g.2.2.2.2.1.1) (fun s hs kn=>?_) (fun i n t s hd hi ha hs kn hk=>?_) (s:=flat b) ⟨hg,hn⟩
 ·dsimp only;unfold jX;rw[â];rfl
 ·dsimp only;unfold jX;obtain⟨hs1,hs2⟩:=hs;have hin:In ((s.1,s.2.1),s.2.2):=hs1.inn hs2;rw[Õ hi,Ε hi,ġ ha];rw[show iY ((s.1,s.2.1),s.2.2.1,s.2.2.2.1,s.2.2.2.2.1,s.2.2.2.2.2.1,s.2.2.2.2.2.2) n=iY ((s.1,s.2.1),s.2.2) n from rfl,Bk hin,À];rw[show yo ((s.1,s.2.1),s.2.2.1,s.2.2.2.1,s.2.2.2.2.1,s.2.2.2.2.2.1,s.2.2.2.2.2.2) n=yo ((s.1,s.2.1),s.2.2) n from rfl,afx hin,À];rw[Oe hs1];generalize hB:(((s.1,s.2.1),s.2.2):ò)=B at hs1 hin ⊢
  have hu:i7 B (n::t)=if (g8 B n).2≠0 then(IR,(g8 B n).2) else i7 (g8 B n).1 t:=rfl
  rw[hu]
  by_cases h0:Kg B n.1 n.2=0
  ·rw[if_pos h0,Ò (by rfl)]
   by_cases h2:ě (ţ B n)=0
   ·have e:g8 B n=(ţ B n,0):=by unfold g8; rw[if_neg (by simp[h0]),if_neg (by simp[h2])]
    have e2:Zi B n=(ţ B n,0):=by unfold Zi; rw[if_neg (by simp[(ė B).2 hs1]),if_neg (by simp[h2])]
    rw[e2,e,Ò (by rfl),Î hi (by omega),if_neg (show ¬((0:Int)≠0) by simp)];subst hB;exact hk (s.1,s.2.1,s.2.2.1,s.2.2.2.1,s.2.2.2.2.1,s.2.2.2.2.2.1,s.2.2.2.2.2.2++[n]) ⟨(ė _).1 h2,hs2⟩
   ·have e:g8 B n=(IR,ě (ţ B n)):=by unfold g8; rw[if_neg (by simp[h0]),if_pos h2]
    have e2:Zi B n=(IR,ě (ţ B n)):=by unfold Zi; rw[if_neg (by simp[(ė B).2 hs1]),if_pos h2]
    rw[e2,e,Ü (by simp[ine,h2]),if_pos h2,if_pos h2];exact h1 _ h2
  ·have e:g8 B n=(B,0):=by unfold g8; rw[if_pos h0]
   rw[if_neg h0,Ü (by rfl),Î hi (by omega),e,if_neg (show ¬((0:Int)≠0) by simp)];subst hB;exact hk s ⟨hs1,hs2⟩
def af7 {b:ò} (hI:In b) {ns:List (Int×Int)} (hl:ns.length≤1000) {E0:Int→Option ρ} {E1:Int×afA→Option ρ} {E2:afA→Sys×List (Int×Int)×Int→Option ρ} {E3:afA→Sys×List (Int×Int)×Int→Bool×Int→Option ρ}
 {K:afA→Sys×List (Int×Int)×Int→Bool×Int→Option ρ} (R:Int→Option ρ) (h0:∀e,e≠0→E0 e=R e) (h1:∀z,z.1≠0→E1 z=R z.1) (h3:∀z s r,E3 z s r=R 9) :
 Ä (Ř b) (fun r1=>ifb (ine r1 (0:Int)) (E0 r1) (ail ns E1 (fun z8=>Ä (iX ((z8.1,z8.2.1),z8.2.2)) fun r9=>ifb (ine r9.2.2 (0:Int)) (E2 z8 r9) (Ä (jw r9.1) fun r10=>ifb (!r10.1) (E3 z8 r9 r10) (K z8 r9 r10))) b)) =
 if (wS b ns).2≠0 then R (wS b ns).2 else K (flat (wS b ns).1) ((((Ñ (wS b ns).1).length:Int)+1,Τ (wS b ns).1),ED (wS b ns).1,0) (true,0):=by
 rw[qO hI.size hI.num,À];unfold wS
 by_cases hc:ě b=0
 ·have hg:=(ė b).1 hc;rw[Ò (by simp[ine,hc]),if_neg (show ¬(ě b≠0) from fun h=>h hc),ac3 hl R h1 hg hI.num]
  by_cases hr:(i7 b ns).2=0
  ·rw[if_neg (show ¬((i7 b ns).2≠0) from fun h=>h hr),if_neg (show ¬((i7 b ns).2≠0) from fun h=>h hr)];have hB:=K9 hg hr
   have hBn:∀g∈(i7 b ns).1.2.1,I64 g.2.2.2.2.1.1:=by rw[Dr hr]; exact hI.num
   generalize (i7 b ns).1=B at hB hBn ⊢;rw[aen,Oc (hB.inn hBn),À,W8 hB,Ò (by rfl)];dsimp only;rw[show(((Ñ B).length:Int)+1)=(((Ñ B).length+1:Nat):Int) by push_cast; rfl,Hc hB.sys,À]
   cases ho:jo (Τ B) ((Ñ B).length+1) with
   |true =>
    rw[if_neg (by simp)];simp only[dD,ë];push_cast;rfl
   |false =>
    rw[if_pos (by simp)];simp only[eQ,md];rw[h3];rfl
  ·rw[if_pos hr,if_pos hr,if_pos hr]
 ·rw[Ü (by simp[ine,hc]),h0 _ hc,if_pos hc,if_pos hc]
end
structure ahW (B:ò):Prop where
 good:Ő B
 op:jo (Τ B) ((Ñ B).length+1)=true
 num:∀g∈B.2.1,I64 g.2.2.2.2.1.1
theorem UT {b:ò} (hI:In b) {ns:List (Int×Int)} (e:(wS b ns).2=0):ahW (wS b ns).1∧(wS b ns).1=(i7 b ns).1∧(i7 b ns).2=0∧Ő b:=by
 unfold wS at e ⊢
 by_cases hc:ě b=0
 ·rw[if_neg (by simp[hc])] at e ⊢
  by_cases hr:(i7 b ns).2=0
  ·rw[if_neg (by simp[hr])] at e ⊢
   cases ho:jo (Τ (i7 b ns).1) ((Ñ (i7 b ns).1).length+1) with
   |true =>
    rw[if_pos rfl];exact⟨⟨K9 ((ė b).1 hc) hr,ho,by rw[Dr hr]; exact hI.num⟩,rfl,hr,(ė b).1 hc⟩
   |false=>rw[ho] at e; simp at e
  ·rw[if_pos hr] at e; exact absurd e hr
 ·rw[if_pos hc] at e; exact absurd e hc
theorem Iv (B:ò) (n:Int×Int):0≤Kg B n.1 n.2∧Kg B n.1 n.2<((Ñ B).length+1:Nat):=by
 unfold Kg
 cases h:la (Ñ B) n.1 n.2 with
 |none=>dsimp only; omega
 |some j=>have:=(mC h).1; dsimp only; omega
theorem ahV {B:ò} (h:Ő B) (hn:∀g∈B.2.1,I64 g.2.2.2.2.1.1) (s:Sys) (n:Int×Int):sm (B,s) n=some (Kg B n.1 n.2):=by
 unfold sm DR;rw[show iY (B,s).1 n=iY B n from rfl,Bk (h.inn hn),À,Oe h]
 split
 ·rename_i e; rw[e]
 ·rfl
theorem afj {B:ò} {L:List Lk} {N:Nat} (h:kh L N) {to from':Int} (h1:0≤to∧to<N) (h2:0≤from'∧from'<N):jv (B,(N:Int),L) to from'=some (Xg L N from' to).1:=by
 unfold jv vc;rw[show(B,(N:Int),L).2=((N:Int),L) from rfl,ahl h h2 h1,À]
def ah9 (B:ò):Sys:=(((Ñ B).length:Int)+1,Τ B)
def agM (B:ò) (s t:Int):Int:=dst (Τ B) ((Ñ B).length+1) s t
def ivR (B:ò) (n:Int×Int):Int×Int:=(-(agM B (Kg B n.1 n.2) 0),agM B 0 (Kg B n.1 n.2))
theorem ah8 (B:ò):ah9 B=((((Ñ B).length+1:Nat):Int),Τ B):=by unfold ah9; push_cast; rfl
theorem Ew (B:ò):0≤(0:Int)∧(0:Int)<((Ñ B).length+1:Nat):=by omega
section
variable {B:ò} (h:ahW B)
include h
theorem aiR {s t:Int} (hs:0≤s∧s<((Ñ B).length+1:Nat)) (ht:0≤t∧t<((Ñ B).length+1:Nat)) : -9007199254740992≤agM B s t∧agM B s t≤9007199254740992 :=
 ahJ h.good.sys h.good.tied h.op hs ht
theorem QX {to from':Int} (h1:0≤to∧to<((Ñ B).length+1:Nat)) (h2:0≤from'∧from'<((Ñ B).length+1:Nat)):jv (B,ah9 B) to from'=some (agM B from' to):=by
 rw[ah8,afj h.good.sys h1 h2,acj h.good.sys h.good.tied h2 h1,if_pos h.op];rfl
theorem abJ (n:Int×Int):oY (B,ah9 B) n=some (-(agM B (Kg B n.1 n.2) 0)):=by
 unfold oY uZ;have hb:=aiR h (Iv B n) (Ew B);rw[ahV h.good h.num,À,QX h (Ew B) (Iv B n),À,Ð (by omega) (by omega)];congr 1;omega
theorem Ts (n:Int×Int):kB (B,ah9 B) n=some (agM B 0 (Kg B n.1 n.2)):=by
 unfold kB oI;rw[ahV h.good h.num,À,QX h (Iv B n) (Ew B),À]
theorem Tn (n:Int×Int):kz (B,ah9 B) n=some (ivR B n):=by
 unfold kz oH;rw[abJ h,À,Ts h,À];rfl
end
def Od (b:ò) (n:Int×Int):(Int×Int)×Int:=if (wS b [n]).2≠0 then((0,0),(wS b [n]).2) else(ivR (wS b [n]).1 n,0)
theorem Zj {b:ò} (hI:In b) (n:Int×Int):ņ b n=some (Od b n):=by
 unfold ņ Ai Od;refine(af7 hI (ns:=[n]) (by simp) (fun e=>some (((0,0):Int×Int),e)) (fun e he=>by rw[ÿ (by simp[ine,he])]) (fun z he=>by rw[ÿ (by simp[ine,he])]) (fun _ _ _=>rfl)).trans ?_
 split
 ·rfl
 ·rename_i e;have hr:=(UT hI (by simpa using e)).1;dsimp only;rw[aen,show((((Ñ (wS b [n]).1).length:Int)+1,Τ (wS b [n]).1):Sys)=ah9 (wS b [n]).1 from rfl,Tn hr,À]
def ka (x:List Int) (y:List Int) (l:Lk):List Int:=if gv x l.2.1=ŵ then y else y.set l.1.toNat (min (gv y l.1) (l.2.2+gv x l.2.1))
def QM (L:List Lk) (N:Nat) (x:List Int):List Int:=L.foldl (ka x) (List.replicate N ŵ)
def exL (L:List Lk) (N:Nat) (to:Int):Nat→List Int
 |0=>(List.replicate N ŵ).set to.toNat 0
 |k+1=>QM L N (exL L N to k)
def oi (L:List Lk) (N:Nat) (to:Int) (most:Nat):List (List Int):=(List.range (most+1)).map (exL L N to)
section
variable {L:List Lk} {N:Nat}
def IC (x y:List Int) (l:Lk):(ka x y l).length=y.length:=by unfold ka; split<;>simp
def IE (x:List Int):∀(M:List Lk) (y:List Int),(M.foldl (ka x) y).length=y.length
 |[],y=>rfl
 |l::M,y=>by rw[gg,IE x M,IC]
def abW (x:List Int):(QM L N x).length=N:=by unfold QM; rw[IE]; simp
def YT (to:Int) (k:Nat):(exL L N to k).length=N:=by
 cases k with
 |zero=>simp[exL]
 |succ k=>exact abW _
def Lim (B:Int) (x:List Int):Prop:=∀v:Int,gv x v≠ŵ→-B≤gv x v∧gv x v≤B
def gv_out {x:List Int} {v:Int} (h:¬v.toNat<x.length):gv x v=0:=by
 unfold gv;rw[List.getElem?_eq_none (by omega)];rfl
def Ng {B:Int} (hB:0≤B):Lim B (List.replicate N ŵ):=by
 intro v hv
 by_cases h:v.toNat<N
 ·exfalso; apply hv;unfold gv;rw[List.getElem?_replicate,if_pos h];rfl
 ·rw[gv_out (by simpa using h)]; omega
def adX {B:Int} {y:List Int} (hy:Lim B y) {u:Int} (hu:0≤u) (hl:u.toNat<y.length) {a:Int} (ha:a≠ŵ→-B≤a∧a≤B):Lim B (y.set u.toNat a):=by
 intro v hv
 by_cases h:v.toNat=u.toNat
 ·have:gv (y.set u.toNat a) v=a:=by
   unfold gv;rw[h,List.getElem?_set_self hl];rfl
  rw[this] at hv ⊢;exact ha hv
 ·have:gv (y.set u.toNat a) v=gv y v:=by
   unfold gv;rw[List.getElem?_set_ne (fun e=>h e.symm)]
  rw[this] at hv ⊢;exact hy v hv
def Z7 (hS:kh L N) {B:Int} (hB:0≤B) (hB2:B≤1000000000000000000) {x y:List Int} (hx:Lim B x) (hy:Lim (B+4503599627370496) y) (hl:y.length=N) {l:Lk} (hm:l∈L):Lim (B+4503599627370496) (ka x y l):=by
 unfold ka
 split
 ·exact hy
 ·rename_i hf;have h1:=hS.inr l hm;have h2:=hS.most l hm;have h3:=hx _ hf;refine adX hy h1.1.1 (by omega) fun ha=>?_
  by_cases h4:gv y l.1=ŵ
  ·rw[h4] at ha ⊢
   have:min ŵ (l.2.2+gv x l.2.1)=l.2.2+gv x l.2.1:=by unfold ŵ; omega
   rw[this]; omega
  ·have:=hy _ h4;omega
def Z8 (hS:kh L N) {B:Int} (hB:0≤B) (hB2:B≤1000000000000000000) {x:List Int} (hx:Lim B x):∀(M:List Lk),(∀l∈M,l∈L)→∀y:List Int,y.length=N→Lim (B+4503599627370496) y→Lim (B+4503599627370496) (M.foldl (ka x) y)
 |[],_,y,_,hy=>hy
 |l::M,hM,y,hl,hy=>by
  rw[gg];exact Z8 hS hB hB2 hx M (fun m hm=>hM m (by simp[hm])) _ (by rw[IC,hl]) (Z7 hS hB hB2 hx hy hl (hM l (by simp)))
def Eb (hS:kh L N) {to:Int} (ht:0≤to∧to<N):∀k:Nat,k≤200→Lim (k*4503599627370496) (exL L N to k)
 |0,_=>by
  unfold exL;exact adX (Ng (by omega)) ht.1 (by simp; omega) (fun _=>by omega)
 |k+1,hk=>by
  have:=Z8 hS (B:=k*4503599627370496) (by omega) (by omega) (Eb hS ht k (by omega)) L (fun _ h=>h) (List.replicate N ŵ) (by simp) (Ng (by omega));unfold exL QM
  have e:(((k+1:Nat):Int)*4503599627370496)=(k:Int)*4503599627370496+4503599627370496:=by push_cast; omega
  rw[e];exact this
def Wv {ρ:Type} (hN:N≤1000) (K:List Int→Option ρ) {f:Int×List Int→(Int×List Int→Option ρ)→Option ρ}
 (hf:∀(v:Int×List Int) kk,f v kk=Bt (N:Int) v.1 v.2 (fun u34 u35=>kk (u34,u35)) K):Í f ((0:Int),List.replicate N (0:Int))=K (List.replicate N ŵ):=by
 refine ĵ (List.replicate N (0:Int)) (fun i=>List.replicate i ŵ++List.replicate (N-i) (0:Int)) _ (by simp) (fun i a hi ha kn=>?_) (fun kn=>?_)
 ·rw[hf];dsimp only;unfold Bt;rw[List.length_replicate] at hi
  have hlen:(List.replicate i ŵ++List.replicate (N-i) (0:Int)).length=N:=by simp; omega
  have e1:ilt (i:Int) (N:Int)=true:=decide_eq_true (by omega);rw[Ü e1,show ú (List.replicate i ŵ++List.replicate (N-i) (0:Int))=(N:Int) by unfold ú; rw[hlen],ς (by omega) (by omega),mg (by rw[hlen]; omega),Ð (by omega) (by omega)];congr 2;rw[Int.toNat_natCast];rw[List.set_append_right _ _ (by simp),List.length_replicate,Nat.sub_self];rw[show N-i=(N-(i+1))+1 by omega,List.replicate_succ,List.set_cons_zero,List.replicate_succ'];simp
 ·rw[hf];dsimp only;unfold Bt;rw[List.length_replicate];have e1:ilt (N:Int) (N:Int)=false:=decide_eq_false (by omega);rw[Ò e1];simp
def okN (hN:N≤1000) {ρ:Type} (x:Option ρ):è ((ile (0:Int) (N:Int))&&(ñ (Int.toNat (N:Int)))) x=x:=by
 rw[ÿ];rw[cT,Ú (by omega),Bool.and_true];exact decide_eq_true (by omega)
def adW {ρ:Type} (hS:kh L N) {B:Int} (hB:0≤B) (hB2:B≤1000000000000000000) {x:List Int} (hx:Lim B x) (hxl:x.length=N) (K:List Int→Option ρ) :
 Í (fun(v20:(Val (.pair tI (.slice tI)))) kk23=>FM x L (à L) v20.1 v20.2 (fun u21 u22=>kk23 (u21,u22)) K) ((0:Int),List.replicate N ŵ)=K (QM L N x):=by
 have hl3:=hS.len;refine ĵ L (fun i=>(L.take i).foldl (ka x) (List.replicate N ŵ)) _ rfl (fun i l hi hl kn=>?_) (fun kn=>?_)
 ·try dsimp only
  unfold FM;have hm:=List.mem_of_getElem? hl;have h1:=hS.inr l hm;have h2:=hS.most l hm;rw[Õ hi,È hl,vq h1.2.1 (by omega),take_succ hl,List.foldl_append,Î hi (by omega)]
  have hlen:((L.take i).foldl (ka x) (List.replicate N ŵ)).length=N:=by rw[IE]; simp
  generalize (L.take i).foldl (ka x) (List.replicate N ŵ)=y at hlen ⊢
  by_cases hf:gv x l.2.1=ŵ
  ·rw[Ò (by rw[hf]; rfl)];simp only[List.foldl_cons,List.foldl_nil];unfold ka;rw[if_pos hf]
  ·have h3:=hx _ hf;rw[Ü (bne_iff_ne.2 hf),show ú y=(N:Int) by unfold ú; rw[hlen],ς h1.1.1 h1.1.2,mg (by omega),vq h1.2.1 (by omega),Ð (by omega) (by omega),ς h1.1.1 h1.1.2,mg (by omega),Î hi (by omega)];simp only[List.foldl_cons,List.foldl_nil];unfold ka;rw[if_neg hf,YM]
 ·try dsimp only
  unfold FM;rw[â,List.take_length];rfl
def agJ {ρ:Type}:@Sd ρ=@Bt ρ:=rfl
def IA (to:Int) (m:Nat):(oi L N to m).length=m+1:=by simp[oi]
def IB {to:Int} {m k:Nat} (hk:k≤m):(oi L N to m)[k]?=some (exL L N to k):=by
 unfold oi;rw[List.getElem?_map,List.getElem?_range (by omega)];rfl
def agI (hS:kh L N) {to:Int} (ht:0≤to∧to<N) {most:Nat} (hm:most≤100):GR ((N:Int),L) to (most:Int)=some (oi L N to most):=by
 have hN:=hS.n60
 unfold GR Mn
 dsimp only;rw[okN (by omega),Int.toNat_natCast];refine(Wv (by omega) _ (fun v kk=>by rw[Ý,List.length_replicate])).trans ?_;rw[show ú (List.replicate N ŵ)=(N:Int) by simp[ú],ς ht.1 ht.2,mg (by simp; omega)];refine ĵ (List.replicate most ()) (fun i=>oi L N to i) _ (by simp[oi,exL]) (fun i a hi ha kn=>?_) (fun kn=>?_)
 ·try dsimp only
  unfold Kz;rw[List.length_replicate] at hi;have e1:ilt (i:Int) (most:Int)=true:=decide_eq_true (by omega);rw[Ü e1,Ý,IA]
  have e2:(((i+1:Nat):Int)-1)=(i:Int):=by omega
  rw[e2,Ð (by omega) (by omega),show ú (oi L N to i)=((i+1:Nat):Int) by unfold ú; rw[IA],ς (by omega) (by omega),Int.toNat_natCast,i9 (IB (Nat.le_refl i)),okN (by omega),Int.toNat_natCast];rw[agJ];refine(Wv (by omega) _ (fun v kk=>by rw[Ý,List.length_replicate])).trans ?_;refine(adW hS (B:=i*4503599627370496) (by omega) (by omega) (Eb hS ht i (by omega)) (YT _ _) _).trans ?_;rw[ÿ (Ú (by simp only[IA,List.length_singleton]; omega)),Ð (by omega) (by omega)];congr 2;unfold oi;rw[List.range_succ (n:=i+1),List.map_append];rfl
 ·try dsimp only
  unfold Kz;rw[List.length_replicate];have e1:ilt (most:Int) (most:Int)=false:=decide_eq_false (by omega);rw[Ò e1]
def Ry (L:List Lk) (x:List Int) (good:Int→Bool) (u sum:Int):Option Nat:=L.findIdx? fun l=>l.1==u&&(decide (gv x l.2.1≠ŵ)&&good (sum+l.2.2+gv x l.2.1))
def qg (L:List Lk) (rest:Nat→List Int) (good:Int→Bool):Nat→Int→Int→List Int→List Int
 |0,_,_,out=>out
 |k+1,u,sum,out=>match Ry L (rest k) good u sum with
  |some i=>qg L rest good k (L[i]?.getD (0,0,0)).2.1 (sum+(L[i]?.getD (0,0,0)).2.2) (out++[(i:Int)])
  |none=>qg L rest good k u sum out
def folL {ρ:Type} (good:Int→Bool) (c0:Int) (c1:List (List Int)) (c2:List Lk) (c3:Int) (v0:Int) (v1:Int) (v2:Int) (v3:List Int) (kn:Int→Int→Int→List Int→Option ρ) (k0:Int×Int×List Int→Option ρ):Option ρ :=
 ifb (ilt v2 c3) (ą c2 v2 fun e7=>ifb (ieq e7.1 v0) (ck (c0-(1:Int)) fun n8=>ą c1 n8 fun e9=>ą e9 e7.2.1 fun e10=>ifb (ine e10 (1152921504606846976:Int)) (ck (v1+e7.2.2) fun n11=>ck (c0-(1:Int)) fun n12=>ą c1 n12 fun e13=>ą e13 e7.2.1 fun e14=>ck (n11+e14) fun n15=>ifb (good n15) (è (ñ ((List.length v3)+(List.length ([v2])))) (ck (v1+e7.2.2) fun n16=>k0 (e7.2.1,n16,(v3++([v2]))))) (ck (v2+(1:Int)) fun n17=>kn v0 v1 n17 v3)) (ck (v2+(1:Int)) fun n18=>kn v0 v1 n18 v3)) (ck (v2+(1:Int)) fun n19=>kn v0 v1 n19 v3)) (k0 (v0,v1,v3))
def aiJ {ρ:Type} (hS:kh L N) (good:Int→Bool) {rest:List (List Int)} {k:Nat} {x:List Int} (hr:rest[k]?=some x) (hk:k≤100) (hx:Lim 1000000000000000000 x) (hxl:x.length=N) {u sum:Int} (hs : -1000000000000000000≤sum∧sum≤1000000000000000000) {out:List Int} (ho:out.length≤1000)
 (K:Int×Int×List Int→Option ρ):Í (fun(v:Int×Int×Int×List Int) kk=>folL good ((k+1:Nat):Int) rest L (à L) v.1 v.2.1 v.2.2.1 v.2.2.2 (fun a b c d=>kk (a,b,c,d)) K) (u,sum,(0:Int),out) =
  match Ry L x good u sum with|some i=>K ((L[i]?.getD (0,0,0)).2.1,sum+(L[i]?.getD (0,0,0)).2.2,out++[(i:Int)])|none=>K (u,sum,out):=by
 have hl3:=hS.len;refine đ (fun v=>∃i:Nat,i≤L.length∧v=(u,sum,(i:Int),out)∧∀j l,j<i→L[j]?=some l→(l.1==u&&(decide (gv x l.2.1≠ŵ)&&good (sum+l.2.2+gv x l.2.1)))=false) (fun v=>L.length-v.2.2.1.toNat) ?_ ⟨0,by omega,rfl,fun j l h=>by omega⟩;rintro v ⟨i,hi,rfl,hp⟩
 have e0:(((k+1:Nat):Int)-1)=(k:Int):=by omega
 rcases df i L.length with h2|h2
 ·have hl:L[i]?=some L[i]:=cF h2;generalize L[i]=l at hl;have hm:=cO hl;have h1:=hS.inr l hm;have h4:=hS.most l hm
  have hstep:(l.1==u&&(decide (gv x l.2.1≠ŵ)&&good (sum+l.2.2+gv x l.2.1)))=false→∃y,(∃i:Nat,i≤L.length∧y=(u,sum,(i:Int),out)∧∀j l,j<i→L[j]?=some l→(l.1==u&&(decide (gv x l.2.1≠ŵ)&&good (sum+l.2.2+gv x l.2.1)))=false)∧(L.length-y.2.2.1.toNat<L.length-((u,sum,(i:Int),out):Int×Int×Int×List Int).2.2.1.toNat)∧y=(u,sum,(i:Int)+1,out):=fun hf =>
   ⟨_,⟨i+1,h2,by rw[show((i+1:Nat):Int)=(i:Int)+1 by push_cast; rfl],fun j m hj hm=>by
    rcases gK.1 hj with h|rfl
    ·exact hp j m h hm
    ·rw[hl] at hm; cases hm; exact hf⟩,by simp; omega,rfl⟩
  by_cases hf:(l.1==u&&(decide (gv x l.2.1≠ŵ)&&good (sum+l.2.2+gv x l.2.1)))=true
  ·refine .inl fun kn=>?_
   have hfi:Ry L x good u sum=some i:=by
    unfold Ry;rw[List.findIdx?_eq_some_iff_getElem];obtain⟨hh,rfl⟩:=List.getElem?_eq_some_iff.1 hl;exact⟨h2,hf,fun j hj=>by have:=hp j _ hj (List.getElem?_eq_getElem (by omega)); rw[this]; simp⟩
   rw[hfi];simp only[Bool.and_eq_true,beq_iff_eq,decide_eq_true_eq] at hf;have h5:=hx _ hf.2.1;dsimp only;unfold folL
   rw[Õ h2,È hl,Ü (by simp[hf.1]),e0,Ð (by omega) (by omega),È hr,vq h1.2.1 (by omega),Ü (bne_iff_ne.2 hf.2.1),Ð (by omega) (by omega),Ð (by omega) (by omega),È hr,vq h1.2.1 (by omega),Ð (by omega) (by omega),Ü hf.2.2,
    ÿ (Ú (by simp; omega)),Ð (by omega) (by omega),hl]
   rfl
  ·have hf':=Bool.not_eq_true _▸hf;obtain⟨y,hy1,hy2,rfl⟩:=hstep hf';refine .inr ⟨_,hy1,hy2,fun kn=>?_⟩;dsimp only;unfold folL;rw[Õ h2,È hl,Î h2 (by omega)]
   by_cases g1:l.1=u
   ·rw[Ü (by simp[g1]),e0,Ð (by omega) (by omega),È hr,vq h1.2.1 (by omega)]
    by_cases g2:gv x l.2.1=ŵ
    ·rw[Ò (by rw[g2]; rfl)]
    ·have h5:=hx _ g2
     have g3:good (sum+l.2.2+gv x l.2.1)=false:=by simpa[g1,g2] using hf'
     rw[Ü (bne_iff_ne.2 g2),Ð (by omega) (by omega),Ð (by omega) (by omega),È hr,vq h1.2.1 (by omega),Ð (by omega) (by omega),Ò g3]
   ·rw[Ò (by simpa using g1)]
 ·refine .inl fun kn=>?_
  obtain rfl:i=L.length:=by omega
  have hfi:Ry L x good u sum=none:=by
   unfold Ry;rw[List.findIdx?_eq_none_iff];intro l hl;obtain⟨j,hj,rfl⟩:=List.mem_iff_getElem.1 hl;exact hp j _ hj (List.getElem?_eq_getElem hj)
  rw[hfi];dsimp only;unfold folL;rw[â]
def folM {ρ:Type} (good:Int→Bool) (c0:List (List Int)) (c6:List Lk) (v0:Int) (v1:Int) (v2:Int) (v3:List Int) (kn:Int→Int→Int→List Int→Option ρ) (k0:List Int→Option ρ):Option ρ :=
 ifb (igt v1 (0:Int)) (Í (fun(v22:Int×Int×Int×List Int) kk27=>folL good v1 c0 c6 (à c6) v22.1 v22.2.1 v22.2.2.1 v22.2.2.2 (fun u23 u24 u25 u26=>kk27 (u23,u24,u25,u26)) (fun z20=>ck (v1-(1:Int)) fun n21=>kn z20.1 n21 z20.2.1 z20.2.2)) (v0,v2,(0:Int),v3)) (k0 v3)
def aiI {ρ:Type} (hS:kh L N) (good:Int→Bool) {rest:List (List Int)} {R:Nat→List Int} {k0:Nat} (hk:k0≤100) (hr:∀k,k<k0→rest[k]?=some (R k)) (hx:∀k,k<k0→Lim 900000000000000000 (R k)∧(R k).length=N) (u:Int) (K:List Int→Option ρ) :
 Í (fun(v:Int×Int×Int×List Int) kk=>folM good rest L v.1 v.2.1 v.2.2.1 v.2.2.2 (fun a b c d=>kk (a,b,c,d)) K) (u,(k0:Int),(0:Int),[])=K (qg L R good k0 u 0 []):=by
 have key:=AG (f:=fun(v:Int×Int×Int×List Int) kk=>folM good rest L v.1 v.2.1 v.2.2.1 v.2.2.2 (fun a b c d=>kk (a,b,c,d)) K) (F:=fun v=>K (qg L R good v.2.1.toNat v.1 v.2.2.1 v.2.2.2))
  (fun v=>∃k:Nat,v.2.1=k∧k≤k0∧(-(((k0-k:Nat):Int)*4503599627370496)≤v.2.2.1∧v.2.2.1≤((k0-k:Nat):Int)*4503599627370496)∧v.2.2.2.length≤k0-k) (fun v=>v.2.1.toNat) (fun v hv kn hk=>?_) (x:=(u,(k0:Int),0,[])) ⟨k0,rfl,cG _,by simp,by simp⟩
 ·rw[key]; simp
 ·obtain⟨u,k',sum,out⟩:=v;obtain⟨k,e,h1,h2,h3⟩:=hv;dsimp only at e h2 h3 hk ⊢;subst e;rw[Int.toNat_natCast] at hk ⊢;unfold folM
  cases k with
  |zero =>
   rw[Ò (by rfl)];rfl
  |succ k =>
   rw[Ü (decide_eq_true (by omega))];have hh:=hx k (by omega)
   have hlim:Lim 1000000000000000000 (R k):=fun v hv=>by have:=hh.1 v hv; omega
   refine(aiJ hS good (hr k (by omega)) (by omega) hlim hh.2 (by omega) (by omega) _).trans ?_;unfold qg
   have e0:(((k+1:Nat):Int)-1)=(k:Int):=by omega
   cases hn:Ry L (R k) good u sum with
   |none =>
    dsimp only;rw[e0,Ð (by omega) (by omega),hk _ ⟨k,rfl,by omega,by dsimp only; omega,by dsimp only; omega⟩ (by simp)];simp
   |some i =>
    have hi:i<L.length:=by
     unfold Ry at hn;exact(List.findIdx?_eq_some_iff_getElem.1 hn).1
    have hl:L[i]?=some L[i]:=List.getElem?_eq_getElem hi;have h4:=hS.most L[i] (List.getElem_mem _);dsimp only;rw[hl];simp only[Option.getD_some];rw[e0,Ð (by omega) (by omega),hk _ ⟨k,rfl,by omega,by dsimp only; omega,by simp; omega⟩ (by simp)];simp
end
def aa7 (L:List Lk):Int→Int→List Int→Int×Int×Bool
 |u,s,[]=>(u,s,true)
 |u,s,i::t=>if (L[i.toNat]?.getD (0,0,0)).1=u then aa7 L (L[i.toNat]?.getD (0,0,0)).2.1 (s+(L[i.toNat]?.getD (0,0,0)).2.2) t else(0,0,false)
def QY (L:List Lk) (i:Int):Bool:=decide (i<0)||decide ((L.length:Int)≤i)
def KE (L:List Lk) (l:List Int):Int:=if 80<l.length then 2 else if l.any (QY L) then 1 else 0
def ahO (u:Int) (w:Int×Int×Bool):Int:=if w.2.2=true∧w.1=u∧w.2.1<0 then 0 else 8
def Et (L:List Lk) (l:List Int):Int :=
 if KE L l≠0 then KE L l else match l with
 |[]=>8
 |i::_=>ahO (L[i.toNat]?.getD (0,0,0)).1 (aa7 L (L[i.toNat]?.getD (0,0,0)).1 0 l)
def ab4 {L:List Lk} {N:Nat} (h:kh L N) (ho:jo L N=true):pR ((N:Int),L)=some ([],5):=by
 have hN:=h.n60;unfold pR FQ;rw[qP h,À,Ò (by rfl),wY h.links h.n1 (by omega),À,if_pos ho];rfl
def zG {k:Int×Int} (hk:0<k.2) (n:Int):(wV k n).1 / (wV k n).2=k.1*n / k.2∧-(wV k n).1 / (wV k n).2 = -(k.1*n) / k.2:=by
 obtain⟨g,g0,_,g1,g2⟩:=xb (n:=k.1*n) hk
 have hg:(0:Int)<g:=by omega
 have key:∀q d:Int,k.1*n=q*g→k.2=d*g→q / d=k.1*n / k.2∧-q / d = -(k.1*n) / k.2:=by
  intro q d h1 h2;rw[h1,h2];refine⟨(Int.mul_ediv_mul_of_pos_left _ _ hg).symm,?_⟩;rw[←Int.neg_mul];exact(Int.mul_ediv_mul_of_pos_left _ _ hg).symm
 exact key _ _ g1 g2
def XT {k:Int×Int} (hk:0<k.2) {h h':Int×Int} (h0:h.1≤h.2) (h0':h'.1≤h'.2) (h1:h.1≤h'.1) (h2:h'.2≤h.2) :
 G3 (B5 k h).1≤G3 (B5 k h').1∧(B5 k h').2.1 / (B5 k h').2.2≤(B5 k h).2.1 / (B5 k h).2.2:=by
 have mono:∀{m n:Int},k.1*m≤k.1*n→(wV k m).1 / (wV k m).2≤(wV k n).1 / (wV k n).2∧G3 (wV k m)≤G3 (wV k n):=by
  intro m n hmn;unfold G3;rw[(zG hk m).1,(zG hk m).2,(zG hk n).1,(zG hk n).2];have a1:=Int.ediv_le_ediv hk hmn;have a2:=Int.ediv_le_ediv hk (show -(k.1*n)≤-(k.1*m) by omega);omega
 rw[P4 hk h0,P4 hk h0']
 by_cases hn:k.1<0
 ·rw[if_pos hn,if_pos hn];exact⟨(mono (Int.mul_le_mul_of_nonpos_left (by omega) h2)).2,(mono (Int.mul_le_mul_of_nonpos_left (by omega) h1)).1⟩
 ·rw[if_neg hn,if_neg hn];exact⟨(mono (gj h1 (by omega))).2,(mono (gj h2 (by omega))).1⟩
def Bj (b:ò) (n:Int×Int):Prop:=∃g∈b.2.1,g.1=n.1∧n.2∈é b g
theorem Gz {b:ò} (h:Ő b) {n:Int×Int}:Kg b n.1 n.2≠0↔Bj b n:=by
 unfold Kg;constructor
 ·intro hne
  cases hx:la (Ñ b) n.1 n.2 with
  |none=>rw[hx] at hne; simp at hne
  |some j =>
   have hm:=List.mem_of_getElem? (mC hx).2;unfold Ñ at hm;obtain⟨g,hg,hd⟩:=List.mem_flatMap.1 hm;obtain⟨d,hd,e⟩:=List.mem_map.1 hd;simp only[Prod.mk.injEq] at e;obtain⟨e1,rfl⟩:=e;exact⟨g,hg,e1,hd⟩
 ·rintro⟨g,hg,e,hd⟩;obtain⟨i,hi,rfl⟩:=List.mem_iff_getElem.1 hg;obtain⟨k,hk,e2⟩:=List.mem_iff_getElem.1 hd;rw[←e,Rw h (List.getElem?_eq_getElem hi) (by rw[List.getElem?_eq_getElem hk,e2])];dsimp only;omega
theorem aed (b:ò) (x d:Int):Kg b x d=iK b x d:=rfl
theorem aeG (b:ò) (n:Int×Int) (g:ï) {d:Int} (hd:d∈é b g):d∈é (ţ b n) g:=by
 unfold é at hd ⊢;rw[Bo] at hd ⊢;unfold TH ţ at *;simp only[List.mem_append,List.mem_map,List.mem_filter] at hd ⊢;rcases hd with(h|h)|⟨m,⟨h1,h2⟩,h3⟩
 ·exact .inl (.inl h)
 ·exact .inl (.inr h)
 ·exact .inr ⟨m,⟨.inl h1,h2⟩,h3⟩
theorem Wf {b:ò} (n:Int×Int) (h':Ő (ţ b n)):Bj (ţ b n) n:=by
 have hu:=h'.looks n (by simp[ţ]);unfold Hg at hu
 split at hu
 ·omega
 obtain⟨g,hg,_⟩:=HD h' hu;obtain⟨hm,e⟩:=Š hg;refine⟨g,hm,e,?_⟩;unfold é;rw[Bo];unfold TH ţ;simp only[List.mem_append,List.mem_map,List.mem_filter];exact .inr ⟨n,⟨.inr (by simp),by simp[e]⟩,rfl⟩
theorem zo {b:ò} {n:Int×Int} (e:(g8 b n).2=0):(g8 b n=(b,0)∧Kg b n.1 n.2≠0)∨(g8 b n=(ţ b n,0)∧Ő (ţ b n)∧Kg b n.1 n.2=0):=by
 unfold g8 at e ⊢
 split
 ·rename_i h; exact .inl ⟨rfl,h⟩
 ·rename_i h1;rw[if_neg h1] at e
  split
  ·rename_i h2; rw[if_pos h2] at e; exact absurd e h2
  ·rename_i h2; exact .inr ⟨rfl,(ė _).1 (by simpa using h2),by simpa using h1⟩
theorem Ux:∀{ns:List (Int×Int)} {b:ò},(i7 b ns).2=0→∀n,Bj b n→Bj (i7 b ns).1 n
 |[],b,_,n,hn=>hn
 |m::t,b,e,n,hn=>by
  unfold i7 at e ⊢
  split
  ·rename_i h1; rw[if_pos h1] at e; exact absurd e h1
  ·rename_i h1;rw[if_neg h1] at e;refine Ux e n ?_;rcases zo (by simpa using h1) with⟨h,_⟩|⟨h,_,_⟩
   ·rw[h]; exact hn
   ·rw[h];obtain⟨g,hg,e1,hd⟩:=hn;exact⟨g,hg,e1,aeG b m g hd⟩
theorem Uw:∀{ns:List (Int×Int)} {b:ò},Ő b→(i7 b ns).2=0→∀n∈ns,Bj (i7 b ns).1 n
 |[],b,_,_,n,hn=>by simp at hn
 |m::t,b,hg,e,n,hn=>by
  unfold i7 at e ⊢
  split
  ·rename_i h1; rw[if_pos h1] at e; exact absurd e h1
  ·rename_i h1;rw[if_neg h1] at e
   have h1':(g8 b m).2=0:=by simpa using h1
   rcases cN.1 hn with rfl|hn
   ·refine Ux e n ?_;rcases zo h1' with⟨h,h2⟩|⟨h,h2,_⟩
    ·rw[h]; exact(Gz hg).1 h2
    ·rw[h]; exact Wf n h2
   ·exact Uw (Ul hg h1') e n hn
theorem Nf {b:ò} {n:Int×Int} {f:Int→Int→Int} {z:Int}:Xp (ţ b n) f z↔Xp b f z :=
 ⟨fun h=>⟨fun g hg=>by have:=h.gauge g hg; exact⟨this.hi,this.lo,this.down,this.loss⟩,h.cmp⟩,fun h=>⟨fun g hg=>by have:=h.gauge g hg; exact⟨this.hi,this.lo,this.down,this.loss⟩,h.cmp⟩⟩
theorem Uy:∀{ns:List (Int×Int)} {b:ò},(i7 b ns).2=0→∀{f:Int→Int→Int} {z:Int},Xp (i7 b ns).1 f z↔Xp b f z
 |[],b,_,f,z=>Iff.rfl
 |m::t,b,e,f,z=>by
  unfold i7 at e ⊢
  split
  ·rename_i h1; rw[if_pos h1] at e; exact absurd e h1
  ·rename_i h1;rw[if_neg h1] at e;rw[Uy e];rcases zo (by simpa using h1) with⟨h,_⟩|⟨h,_,_⟩
   ·rw[h]
   ·rw[h]; exact Nf
section
variable {B:ò} (h:ahW B)
include h
theorem af2 (f:Int→Int→Int) (z:Int) {n:Int×Int} (hn:Bj B n):ack B f z (Kg B n.1 n.2)=f n.1 n.2:=by
 obtain⟨g,hg,e,hd⟩:=hn;rw[aed,←e,Lf h.good f z hg hd]
theorem iv_in {n:Int×Int} (hn:Bj B n) {f:Int→Int→Int} {z:Int} (hh:Xp B f z):(ivR B n).1≤f n.1 n.2-z∧f n.1 n.2-z≤(ivR B n).2:=by
 have hp:=aal h.good hh;have a1:=TD h.good.sys h.good.tied h.op (Iv B n) (Ew B) hp;have a2:=TD h.good.sys h.good.tied h.op (Ew B) (Iv B n) hp;rw[af2 h f z hn,EG] at a1 a2;unfold ivR agM;dsimp only;omega
end
inductive Wk (L:List Lk) (to:Int):Nat→Int→Int→Prop
 |nil:Wk L to 0 to 0
 |step {k:Nat} {v w m d:Int}:(v,w,m)∈L→Wk L to k w d→Wk L to (k+1) v (m+d)
section
variable {L:List Lk} {N:Nat}
def Wk.snoc {u v m:Int} (hl:(u,v,m)∈L):∀{k:Nat} {s d:Int},Wk L u k s d→Wk L v (k+1) s (d+m):=by
 intro k s d h
 induction h with
 |nil =>
  have:=Wk.step hl (Wk.nil (L:=L) (to:=v))
  have e:m+0=0+m:=by omega
  rw[e] at this;exact this
 | @step k a w m' d h1 h2 ih =>
  have:=Wk.step h1 ih
  have e:m'+(d+m)=m'+d+m:=by omega
  rw[e] at this;exact this
def Wk.bd (hS:kh L N) {t:Int} {k:Nat} {s d:Int} (h:Wk L t k s d) : -(k*4503599627370496)≤d∧d≤k*4503599627370496:=by
 induction h with
 |nil=>omega
 | @step k v w m d h1 h2 ih =>
  have:=hS.most _ h1;dsimp only at this;push_cast;omega
def YO {v:Int} (h0:0≤v) (h1:v<N):gv (List.replicate N ŵ) v=ŵ:=by
 unfold gv;rw[List.getElem?_replicate,if_pos (by omega)];rfl
def agq {B:Int} (hB:B≤1100000000000000000) {x:List Int} (hx:Lim B x) (v:Int):gv x v≤ŵ:=by
 by_cases h:gv x v=ŵ
 ·omega
 ·have:=hx v h; unfold ŵ; omega
def GH (hS:kh L N) {B:Int} (hB:0≤B) (hB2:B≤1000000000000000000) {x:List Int} (hx:Lim B x) {v:Int} (h0:0≤v) (h1:v<N) :
 ∀(M:List Lk),(∀l∈M,l∈L)→∀y:List Int,y.length=N→Lim (B+4503599627370496) y →
  gv (M.foldl (ka x) y) v≤gv y v∧(∀w m,(v,w,m)∈M→gv x w≠ŵ→gv (M.foldl (ka x) y) v≤m+gv x w) ∧
  (gv (M.foldl (ka x) y) v=gv y v∨∃w m,(v,w,m)∈M∧gv x w≠ŵ∧gv (M.foldl (ka x) y) v=m+gv x w)
 |[],_,y,_,_=>⟨dP _,fun _ _ h=>by simp at h,.inl rfl⟩
 |l::M,hM,y,hl,hy=>by
  rw[gg];have hlm:=hM l (by simp);obtain⟨i1,i2,i3⟩:=GH hS hB hB2 hx h0 h1 M (fun m hm=>hM m (by simp[hm])) (ka x y l) (by rw[IC,hl]) (Z7 hS hB hB2 hx hy hl hlm);have hr:=hS.inr l hlm;have hyF:=agq (by omega) hy
  -- the element behind one link
  have key:gv (ka x y l) v≤gv y v∧(l.1=v→gv x l.2.1≠ŵ→gv (ka x y l) v≤l.2.2+gv x l.2.1)∧(gv (ka x y l) v=gv y v∨(l.1=v∧gv x l.2.1≠ŵ∧gv (ka x y l) v=l.2.2+gv x l.2.1)):=by
   unfold ka
   by_cases hf:gv x l.2.1=ŵ
   ·rw[if_pos hf];exact⟨dP _,fun _ h=>absurd hf h,.inl rfl⟩
   ·rw[if_neg hf,uq hr.1.1 h0 (by omega)]
    by_cases hv:v=l.1
    ·rw[if_pos hv,hv];refine⟨by omega,fun _ _=>by omega,?_⟩
     by_cases hc:gv y l.1≤l.2.2+gv x l.2.1
     ·exact .inl (by omega)
     ·exact .inr ⟨rfl,hf,by omega⟩
    ·rw[if_neg hv];exact⟨dP _,fun h=>absurd h.symm hv,.inl rfl⟩
  obtain⟨k1,k2,k3⟩:=key;refine⟨by omega,fun w m hm hw=>?_,?_⟩
  ·rcases cN.1 hm with h|h
   ·subst h;have:=k2 rfl hw;dsimp only at this;omega
   ·exact i2 w m h hw
  ·rcases i3 with h|⟨w,m,h,hw,e⟩
   ·rcases k3 with h'|⟨h',hw,e⟩
    ·exact .inl (h.trans h')
    ·refine .inr ⟨l.2.1,l.2.2,?_,hw,h.trans e⟩;rw[←h']; simp
   ·exact .inr ⟨w,m,by simp[h],hw,e⟩
def TC (hS:kh L N) {to:Int} (ht:0≤to∧to<N):∀k:Nat,k≤200→∀v:Int,0≤v→v<N →
 (gv (exL L N to k) v≠ŵ→Wk L to k v (gv (exL L N to k) v))∧∀d,Wk L to k v d→gv (exL L N to k) v≤d∧gv (exL L N to k) v≠ŵ
 |0,_,v,h0,h1=>by
  unfold exL;rw[uq ht.1 h0 (by simp; omega)]
  by_cases hv:v=to
  ·subst hv;rw[if_pos rfl];refine⟨fun _=>.nil,fun d hd=>?_⟩;cases hd;exact⟨dP _,by decide⟩
  ·rw[if_neg hv,YO h0 h1];refine⟨fun h=>absurd rfl h,fun d hd=>?_⟩;cases hd;exact absurd rfl hv
 |k+1,hk,v,h0,h1=>by
  have hlim:=Eb hS ht k (by omega);obtain⟨i1,i2,i3⟩:=GH hS (B:=k*4503599627370496) (by omega) (by omega) hlim h0 h1 L (fun _ h=>h) (List.replicate N ŵ) (by simp) (Ng (by omega));have ih:=TC hS ht k (by omega);unfold exL QM;refine⟨fun hf=>?_,fun d hd=>?_⟩
  ·rcases i3 with h|⟨w,m,h,hw,e⟩
   ·rw[YO h0 h1] at h; exact absurd h hf
   ·rw[e];have hwr:=(hS.inr _ h).2;exact .step h ((ih w hwr.1 hwr.2).1 hw)
  ·have hb:=Wk.bd hS hd
   cases hd with
   | @step k' v' w m d h h2 =>
    have hwr:=(hS.inr _ h).2;obtain⟨j1,j2⟩:=(ih w hwr.1 hwr.2).2 d h2;have:=i2 w m h j2;refine⟨by omega,?_⟩
    have hq:(m+d)≤1000000000000000000:=by push_cast at hb; omega
    intro hF;rw[hF] at this;unfold ŵ at this;omega
def agK (hS:kh L N) {to:Int} (ht:0≤to∧to<N) {k:Nat} (hk:k+1≤200) {u:Int} (hu:0≤u∧u<N) (hf:gv (exL L N to (k+1)) u≠ŵ) :
 ∃w m,(u,w,m)∈L∧gv (exL L N to k) w≠ŵ∧gv (exL L N to (k+1)) u=m+gv (exL L N to k) w:=by
 have hlim:=Eb hS ht k (by omega);obtain⟨_,_,i3⟩:=GH hS (B:=k*4503599627370496) (by omega) (by omega) hlim hu.1 hu.2 L (fun _ h=>h) (List.replicate N ŵ) (by simp) (Ng (by omega));have e:exL L N to (k+1)=L.foldl (ka (exL L N to k)) (List.replicate N ŵ):=rfl;rw[e] at hf ⊢;rcases i3 with h|h
 ·rw[YO hu.1 hu.2] at h; exact absurd h hf
 ·exact h
def Ny (hS:kh L N) {to:Int} (ht:0≤to∧to<N) (good:Int→Bool):∀(k:Nat),k≤200→∀(u sum:Int) (out:List Int),0≤u→u<N→gv (exL L N to k) u≠ŵ→good (sum+gv (exL L N to k) u)=true →
 ∃q,qg L (exL L N to) good k u sum out=out++q∧q.length=k∧(∀i∈q,QY L i=false)∧∃s,aa7 L u sum q=(to,s,true)∧good s=true
 |0,_,u,sum,out,h0,h1,hf,hg=>by
  have hu:u=to:=by
   have hw:=((TC hS ht 0 (by omega) u h0 h1).1 hf);generalize gv (exL L N to 0) u=y at hw;cases hw;rfl
  subst hu
  have e:gv (exL L N u 0) u=0:=by
   unfold exL;rw[uq ht.1 h0 (by simp; omega),if_pos rfl]
  rw[e,gy] at hg;exact⟨[],by simp[qg],rfl,by simp,sum,rfl,hg⟩
 |k+1,hk,u,sum,out,h0,h1,hf,hg=>by
  obtain⟨w,m,hl,hw,e⟩:=agK hS ht hk ⟨h0,h1⟩ hf;unfold qg Ry
  cases hn:L.findIdx? (fun l=>l.1==u&&(decide (gv (exL L N to k) l.2.1≠ŵ)&&good (sum+l.2.2+gv (exL L N to k) l.2.1))) with
  |none =>
   have:=dE.1 hn (u,w,m) hl;rw[e,←Int.add_assoc] at hg;simp[hw,hg] at this
  |some i =>
   obtain⟨hi,hp,_⟩:=List.findIdx?_eq_some_iff_getElem.1 hn;have hg2:L[i]?=some L[i]:=List.getElem?_eq_getElem hi;have hm:=List.mem_of_getElem? hg2;generalize L[i]=x at hp hg2 hm;simp only[Bool.and_eq_true,beq_iff_eq,decide_eq_true_eq] at hp;obtain⟨p1,p2,p3⟩:=hp;have hr:=(hS.inr x hm).2;obtain⟨q,q1,q2,q3,s,q4,q5⟩:=Ny hS ht good k (by omega) x.2.1 (sum+x.2.2) (out++[(i:Int)]) hr.1 hr.2 p2 p3;dsimp only;rw[hg2];simp only[Option.getD_some];refine⟨(i:Int)::q,by rw[q1]; simp,by simp[q2],fun j hj=>?_,s,?_,q5⟩
   ·rcases cN.1 hj with rfl|hj
    ·simp[QY]; omega
    ·exact q3 j hj
   ·unfold aa7;rw[Int.toNat_natCast,hg2];simp only[Option.getD_some];rw[if_pos p1];exact q4
def ags {P:Int→Prop} {B:Int} (h:∃d,P d) (hB:∀d,P d→B≤d):∃d,P d∧∀e,P e→d≤e:=by
 obtain⟨d0,h0⟩:=h
 have:∀(n:Nat) (d:Int),P d→(d-B).toNat≤n→∃d,P d∧∀e,P e→d≤e:=by
  intro n
  induction n with
  |zero=>intro d hd hn; exact⟨d,hd,fun e he=>by have:=hB e he; have:=hB d hd; omega⟩
  |succ n ih =>
   intro d hd hn
   by_cases hx:∃e,P e∧e<d
   ·obtain⟨e,he,hl⟩:=hx;exact ih e he (by have:=hB e he; omega)
   ·exact⟨d,hd,fun e he=>by
     rcases gW e d with q|q
     ·exact absurd ⟨e,he,q⟩ hx
     ·exact q⟩
 exact this _ d0 h0 (cG _)
def Wl.cutK {S:Int→Prop} {vs:List Int} {u d:Int} (h:Wl L S vs u d):∀x∈u::vs,∃vs1 d1 k d2,Wl L S vs1 x d1∧(x::vs1) <:+ (u::vs)∧Wk L u k x d2∧d=d1+d2∧k≤vs.length:=by
 induction h with
 | @nil v hv =>
  intro x hx;simp at hx;subst hx;exact⟨[],0,0,0,.nil hv,List.suffix_refl _,.nil,by omega,by simp⟩
 | @step vs u v m d hw hl ih =>
  intro x hx;rcases cN.1 hx with rfl|hx
  ·exact⟨u::vs,d+m,0,0,.step hw hl,List.suffix_refl _,.nil,by omega,by simp⟩
  ·obtain⟨vs1,d1,k,d2,g1,g2,g3,g4,g5⟩:=ih x hx;exact⟨vs1,d1,k+1,d2+m,g1,g2.trans (List.suffix_cons _ _),g3.snoc hl,by omega,by simp; omega⟩
def abv (hS:kh L N) (hno:jo L N=false):∃(k:Nat) (v d:Int),1≤k∧k≤N∧(0≤v∧v<N)∧Wk L v k v d∧d<0:=by
 have hn:=hS.n60;apply Classical.byContradiction;intro hc
 have hcl:∀{k:Nat} {v d:Int},1≤k→k≤N→(0≤v∧v<N)→Wk L v k v d→0≤d:=fun {k v d} h1 h2 h3 h4=>by
  rcases gW d 0 with q|q
  ·exact absurd ⟨k,v,d,h1,h2,h3,h4,q⟩ hc
  ·exact q
 have hinr:∀l∈L,-4503599627370496≤l.2.2:=fun l hl=>(hS.most l hl).1
 let P:Int→Int→Prop:=fun v d=>∃vs,Wl L (fun u=>0≤u∧u<N) vs v d∧(v::vs).Nodup
 have hP:∀v:Int,0≤v∧v<N→∃d,P v d∧∀e,P v e→d≤e:=fun v hv=>ags (B:=-(60*4503599627370496)) ⟨0,[],.nil hv,by simp⟩ (by
  rintro d ⟨vs,h1,h2⟩;have q1:=h1.lowM hinr;have q2:=h1.short hS.inr (fun w hw=>hw) h2
  have:((vs.length:Nat):Int)*4503599627370496≤60*4503599627370496:=by omega
  omega)
 have ho:jo L N=true:=by
  refine(pe hS.links (by omega)).2 ⟨fun v=>if hv:0≤v∧v<(N:Int) then Classical.choose (hP v hv) else 0,fun u v m hl=>?_⟩;have hr:=hS.inr _ hl;dsimp only at hr;obtain⟨⟨vs,hw,hnd⟩,hu2⟩:=Classical.choose_spec (hP u hr.1);obtain⟨_,hv2⟩:=Classical.choose_spec (hP v hr.2);have e1:(if hv:0≤u∧u<(N:Int) then Classical.choose (hP u hv) else 0)=Classical.choose (hP u hr.1):=dif_pos hr.1;have e2:(if hv:0≤v∧v<(N:Int) then Classical.choose (hP v hv) else 0)=Classical.choose (hP v hr.2):=dif_pos hr.2;dsimp only;rw[e1,e2];generalize Classical.choose (hP u hr.1)=a at *;generalize Classical.choose (hP v hr.2)=b at *
  by_cases hv:v∈u::vs
  ·obtain⟨vs1,d1,k,d2,g1,g2,g3,g4,g5⟩:=hw.cutK v hv;have hlen:=hw.short hS.inr (fun w hw=>hw) hnd;have:=hcl (by omega) (by omega) hr.2 (g3.snoc hl);have:=hv2 d1 ⟨vs1,g1,hnd.sublist g2.sublist⟩;omega
  ·have:=hv2 (a+m) ⟨u::vs,hw.step hl,eT.2 ⟨hv,hnd⟩⟩;omega
 rw[hno] at ho;cases ho
def nQ (L:List Lk) (N:Nat) (k:Nat) (l:Lk):Bool:=decide (gv (exL L N l.1 k) l.2.1≠ŵ)&&decide (l.2.2+gv (exL L N l.1 k) l.2.1<0)
def ace (hS:kh L N) (hno:jo L N=false):∃k,k<N∧∃l∈L,nQ L N k l=true:=by
 have hn:=hS.n60;obtain⟨k,v,d,h1,h2,h3,h4,h5⟩:=abv hS hno
 cases h4 with
 |nil=>omega
 | @step k v w m d hl hk =>
  have hr:=hS.inr _ hl;obtain⟨e1,e2⟩:=(TC hS h3 k (by omega) w hr.2.1 hr.2.2).2 d hk;refine⟨k,by omega,(v,w,m),hl,?_⟩;simp only[nQ,cH,decide_eq_true_eq];exact⟨e2,by omega⟩
def WI (hS:kh L N) {k:Nat} (hk:k<N) {l:Lk} (hl:l∈L) (hb:nQ L N k l=true) :
 ∃q,qg L (exL L N l.1) (fun n=>ilt n 0) (k+1) l.1 0 []=q∧q.length=k+1∧(∀i∈q,QY L i=false)∧Et L q=0∧∃u s,aa7 L u 0 q=(u,s,true)∧s<0:=by
 have hn:=hS.n60;have hr:=hS.inr _ hl;simp only[nQ,cH,decide_eq_true_eq] at hb;have hlim:=Eb hS hr.1 k (by omega);obtain⟨_,i2,_⟩:=GH hS (B:=k*4503599627370496) (by omega) (by omega) hlim hr.1.1 hr.1.2 L (fun _ h=>h) (List.replicate N ŵ) (by simp) (Ng (by omega));have h2:gv (exL L N l.1 (k+1)) l.1≤l.2.2+gv (exL L N l.1 k) l.2.1:=i2 l.2.1 l.2.2 hl hb.1
 have hne:gv (exL L N l.1 (k+1)) l.1≠ŵ:=fun h=>by rw[h] at h2; unfold ŵ at h2; omega
 obtain⟨q,q1,q2,q3,s,q4,q5⟩:=Ny hS hr.1 (fun n=>ilt n 0) (k+1) (by omega) l.1 0 [] hr.1.1 hr.1.2 hne (by rw[Int.zero_add]; exact decide_eq_true (by omega));rw[dL] at q1;have hs:s<0:=of_decide_eq_true q5;refine⟨q,q1,q2,q3,?_,l.1,s,q4,hs⟩
 have hany:q.any (QY L)=false:=by
  rw[eF]
  exact fun i hi=>by rw[q3 i hi]; simp
 cases q with
 |nil=>simp at q2
 |cons i t =>
  have hi:=q3 i (by simp);simp only[QY,gA,decide_eq_false_iff_not] at hi;have hg:L[i.toNat]?=some L[i.toNat]:=cF (by omega)
  have hfst:(L[i.toNat]?.getD (0,0,0)).1=l.1:=by
   unfold aa7 at q4
   by_cases h:(L[i.toNat]?.getD (0,0,0)).1=l.1
   ·exact h
   ·rw[if_neg h] at q4; simp at q4
  have hix:KE L (i::t)=0:=by
   unfold KE;rw[if_neg (by omega),hany];rfl
  unfold Et;rw[hix,if_neg (by simp)];dsimp only;rw[hfst,q4];unfold ahO;dsimp only;rw[if_pos ⟨rfl,rfl,hs⟩]
end
section
variable {L:List Lk} {N:Nat}
def agT {ρ:Type} (c0:List (List Int)) (c6:List Lk):@Ax ρ c0 c6=folM (fun n=>ilt n 0) c0 c6:=rfl
def zn (L:List Lk) (N:Nat):List (List (List Int)):=(List.range N).map fun(n:Nat)=>oi L N n N
def abc {L:List Lk} {N n:Nat} (h:n<N):(zn L N)[n]?=some (oi L N n N):=by
 unfold zn;rw[List.getElem?_map,List.getElem?_range h];rfl
def Xx {ρ:Type} (hS:kh L N) (K:List (List (List Int))→Option ρ) :
 Í (fun(v56:Int×List (List (List Int))) kk59=>pF (à (List.replicate N ([]:(Val (.slice (.slice tI)))))) (N:Int) L v56.1 v56.2 (fun u57 u58=>kk59 (u57,u58)) K) ((0:Int),(List.replicate N ([]:(Val (.slice (.slice tI))))))=K (zn L N):=by
 have hN:=hS.n60;refine ĵ (List.replicate N ()) (fun i=>((List.range i).map fun(n:Nat)=>oi L N n N)++List.replicate (N-i) ([]:List (List Int))) _ (by simp) (fun i a hi ha kn=>?_) (fun kn=>?_)
 ·try dsimp only
  unfold pF;rw[List.length_replicate] at hi;rw[Ý,List.length_replicate,Ü (decide_eq_true (by omega)),agI hS ⟨by omega,by omega⟩ (by omega),À]
  have hlen:(((List.range i).map fun(n:Nat)=>oi L N n N)++List.replicate (N-i) ([]:List (List Int))).length=N:=by simp; omega
  rw[show ú (((List.range i).map fun(n:Nat)=>oi L N n N)++List.replicate (N-i) ([]:List (List Int)))=(N:Int) by unfold ú; rw[hlen],ς (by omega) (by omega),Int.toNat_natCast]
  have hget:(((List.range i).map fun(n:Nat)=>oi L N n N)++List.replicate (N-i) ([]:List (List Int)))[i]?=some []:=by
   rw[fQ (by simp),gP,if_pos (by simp; omega)]
  rw[i9 hget,Ð (by omega) (by omega)];congr 2;rw[gq _ _ (by simp),fN,eJ]
  have e:N-i=(N-(i+1))+1:=by omega
  rw[e,f5];simp
 ·try dsimp only
  unfold pF;rw[Ý,List.length_replicate,List.length_replicate,Ò (decide_eq_false (by omega))];unfold zn;simp
def Us {ρ:Type} (hS:kh L N) {k:Nat} (hk:k<N) (k0:Unit→Option ρ) (k1:Int×List Int→Option ρ) (k2:Unit→Option ρ) :
 Í (fun(v48:Int) kk50=>pE ((k:Int)+1) L (à L) (N:Int) L (zn L N) v48 (fun u49=>kk50 u49) k0 k1 k2) (0:Int) =
  match L.find? (nQ L N k) with|some l=>k1 (0,qg L (exL L N l.1) (fun n=>ilt n 0) (k+1) l.1 0 [])|none=>k2 ():=by
 have hN:=hS.n60;have hl3:=hS.len;rw[KK];refine(j7 L (nQ L N k) (fun j=>match L[j.toNat]? with|some l=>k1 (0,qg L (exL L N l.1) (fun n=>ilt n 0) (k+1) l.1 0 [])|none=>k2 ()) (k2 ()) (fun i l hi hl kn=>?_) (fun kn=>?_)).trans ?_
 ·try dsimp only
  unfold pE;have hm:=List.mem_of_getElem? hl;have hr:=hS.inr l hm;have hmo:=hS.most l hm
  have hto:((l.1.toNat:Nat):Int)=l.1:=by omega
  have hg:(zn L N)[l.1.toNat]?=some (oi L N l.1 N):=by rw[abc (by omega),hto]
  have hol:ú (zn L N)=(N:Int):=by simp[ú,zn]
  have hlim:=Eb hS hr.1 k (by omega) l.2.1;rw[Õ hi,È hl,hol,ς hr.1.1 hr.1.2,i9 hg,show((k:Int)+1-1)=(k:Int) by omega,Ð (by omega) (by omega),È (IB (by omega)),vq hr.2.1 (by rw[YT]; omega)];unfold nQ
  by_cases h1:gv (exL L N l.1 k) l.2.1=ŵ
  ·rw[Ü (beq_iff_eq.2 h1),Î hi (by omega),if_neg (by simp[h1])]
  ·have hb:=hlim h1;rw[Ò (beq_eq_false_iff_ne.2 h1),Ð (by omega) (by omega)]
   by_cases h2:l.2.2+gv (exL L N l.1 k) l.2.1<0
   ·rw[Ò (decide_eq_false (by omega)),Ò (decide_eq_false (by omega)),ς hr.1.1 hr.1.2,i9 hg,if_pos (by simp[h1,h2]),agT,cT,hl];have hex:∀j,j<k+1→(oi L N l.1 N)[j]?=some (exL L N l.1 j):=fun j hj=>IB (by omega)
    have hx:∀j,j<k+1→Lim 900000000000000000 (exL L N l.1 j)∧(exL L N l.1 j).length=N:=fun j hj=>⟨fun w hw=>by
     have:=Eb hS hr.1 j (by omega) w hw; omega,YT _ _⟩
    have:=aiI hS (fun n=>ilt n 0) (rest:=oi L N l.1 N) (R:=exL L N l.1) (k0:=k+1) (by omega) hex hx l.1 (fun z=>k1 (0,z));rw[show(((k+1:Nat):Int))=(k:Int)+1 by push_cast; rfl] at this;exact this
   ·rw[Ü (decide_eq_true (by omega)),Î hi (by omega),if_neg (by simp[h1,h2])]
 ·try dsimp only
  unfold pE;rw[â]
 ·cases h:L.findIdx? (nQ L N k) with
  |none=>rfl
  |some j=>dsimp only; rw[Int.toNat_natCast]
def afD (hS:kh L N) (hno:jo L N=false):∃(K:Nat) (l:Lk),K<N∧(∀k,k<K→∀x∈L,nQ L N k x=false)∧L.find? (nQ L N K)=some l∧pR ((N:Int),L)=some (qg L (exL L N l.1) (fun n=>ilt n 0) (K+1) l.1 0 [],0):=by
 have hN:=hS.n60;obtain⟨K0,hK0,l0,hl0,hb0⟩:=ace hS hno
 -- the first number of links
 have hex:∃K,K≤K0∧(∃l∈L,nQ L N K l=true)∧∀k,k<K→∀x∈L,nQ L N k x=false:=by
  have:∀n:Nat,(∀k,k<n→∀x∈L,nQ L N k x=false)∨∃K,K<n∧(∃l∈L,nQ L N K l=true)∧∀k,k<K→∀x∈L,nQ L N k x=false:=by
   intro n
   induction n with
   |zero=>exact .inl fun k hk=>by omega
   |succ n ih =>
    rcases ih with h|⟨K,h1,h2⟩
    ·by_cases hx:∃l∈L,nQ L N n l=true
     ·exact .inr ⟨n,by omega,hx,h⟩
     ·refine .inl fun k hk x hxm=>?_;rcases gd (Nat.le_of_lt_succ hk) with h1|rfl
      ·exact h k h1 x hxm
      ·exact eR.2 fun e=>hx ⟨x,hxm,e⟩
    ·exact .inr ⟨K,by omega,h2⟩
  rcases this (K0+1) with h|⟨K,h1,h2,h3⟩
  ·have:=h K0 (by omega) l0 hl0;rw[hb0] at this; cases this
  ·exact⟨K,by omega,h2,h3⟩
 obtain⟨K,hK,⟨l1,hl1,hb1⟩,hfirst⟩:=hex
 obtain⟨l,hl⟩:∃l,L.find? (nQ L N K)=some l:=by
  cases h:L.find? (nQ L N K) with
  |none=>have:=dU.1 h l1 hl1; exact absurd hb1 this
  |some l=>exact⟨l,rfl⟩
 refine⟨K,l,by omega,hfirst,hl,?_⟩;unfold pR FQ;rw[qP hS,À,Ò (by rfl),wY hS.links hS.n1 (by omega),À,if_neg (by simp[hno]),Ò (by rfl),okN (by omega),Int.toNat_natCast];refine(Xx hS _).trans ?_;refine đ (fun v=>∃k:Nat,k≤K∧v=(k:Int)+1) (fun v=>(K+2)-v.toNat) ?_ ⟨0,by omega,rfl⟩;rintro v ⟨k,hk,rfl⟩;rcases Nat.lt_or_eq_of_le hk with h|rfl
 ·refine .inr ⟨((k+1:Nat):Int)+1,⟨k+1,h,rfl⟩,by omega,fun kn=>?_⟩;unfold tU;refine(Us hS (by omega) _ _ _).trans ?_
  have hnone:L.find? (nQ L N k)=none:=dU.2 fun x hx=>by rw[hfirst k h x hx]; simp
  rw[hnone];dsimp only;rw[Ð (by omega) (by omega)];congr 1
 ·refine .inl fun kn=>?_;unfold tU;refine(Us hS (by omega) _ _ _).trans ?_;rw[hl]
end
def acU (L:List Lk) (N:Nat):List (Int×Int):=(List.range N).map fun(n:Nat)=>(-(dst L N n 0),dst L N 0 n)
section
variable {L:List Lk} {N:Nat}
def abg {n:Nat} (h:n<N):(acU L N)[n]?=some (-(dst L N n 0),dst L N 0 n):=by
 unfold acU;rw[List.getElem?_map,List.getElem?_range h];rfl
def ahc (hS:kh L N) (ht:W6 L N) (ho:jo L N=true):wM ((N:Int),L)=some (acU L N,0):=by
 have hN:=hS.n60;have hN1:=hS.n1;unfold wM Mu;rw[aaU hS (fun n hn=>by simp at hn) (by simp),À,if_pos ho,Ò (by rfl),N3 hS.links hS.n1 (by omega) ho ⟨by omega,by omega⟩,À,okN (by omega),Int.toNat_natCast];have hlen0:(qi L N 0).length=N:=N4 0;refine ĵ (List.replicate N ()) (fun i=>((List.range i).map fun(n:Nat)=>dst L N n 0)++List.replicate (N-i) (0:Int)) _ (by simp) (fun i a hi ha kn=>?_) (fun kn=>?_)
 ·try dsimp only
  unfold tT;rw[List.length_replicate] at hi;rw[Ý,List.length_replicate,Ü (decide_eq_true (by omega)),N3 hS.links hS.n1 (by omega) ho ⟨by omega,by omega⟩,À,vq (by omega) (by rw[N4]; simp; omega)]
  have hlen:(((List.range i).map fun(n:Nat)=>dst L N n 0)++List.replicate (N-i) (0:Int)).length=N:=by simp; omega
  rw[show ú (((List.range i).map fun(n:Nat)=>dst L N n 0)++List.replicate (N-i) (0:Int))=(N:Int) by unfold ú; rw[hlen],ς (by omega) (by omega),Int.toNat_natCast]
  have hget:(((List.range i).map fun(n:Nat)=>dst L N n 0)++List.replicate (N-i) (0:Int))[i]?=some 0:=by
   rw[fQ (by simp),gP,if_pos (by simp; omega)]
  rw[i9 hget,Ð (by omega) (by omega)];congr 2;rw[gq _ _ (by simp),fN,eJ]
  have e:N-i=(N-(i+1))+1:=by omega
  rw[e,f5];simp[dst]
 ·try dsimp only
  unfold tT;rw[Ý,List.length_replicate,List.length_replicate,Ò (decide_eq_false (by omega))]
  have e0:((List.range N).map fun(n:Nat)=>dst L N n 0)++List.replicate (N-N) (0:Int)=(List.range N).map fun(n:Nat)=>dst L N n 0:=by simp
  rw[e0];refine ĵ (List.replicate N ()) (fun i=>(List.range i).map fun(n:Nat)=>(-(dst L N n 0),dst L N 0 n)) _ (by simp) (fun i a hi ha kn=>?_) (fun kn=>?_)
  ·try dsimp only
   unfold tS;rw[List.length_replicate] at hi
   have hget:((List.range N).map fun(n:Nat)=>dst L N n 0)[i]?=some (dst L N i 0):=by
    rw[ff,f0 hi]; rfl
   have hb:=ahJ hS ht ho (s:=(i:Int)) (t:=0) ⟨by omega,by omega⟩ ⟨by omega,by omega⟩;rw[Ý,hlen0,Ü (decide_eq_true (by omega)),show ú ((List.range N).map fun(n:Nat)=>dst L N n 0)=(N:Int) by simp[ú],ς (by omega) (by omega),cT,i9 hget,Ð (by omega) (by omega),vq (by omega) (by rw[hlen0]; simp; omega),ÿ (Ú (by simp only[dz,fS,dI]; omega)),Ð (by omega) (by omega),Int.zero_sub];congr 2;rw[fN,eJ];rfl
  ·try dsimp only
   unfold tS;rw[Ý,hlen0,List.length_replicate,Ò (decide_eq_false (by omega))];rfl
end
abbrev nT (m:Ū) (w:Way):Nat:=(Ñ (trP m w)).length+1
abbrev sT (m:Ū) (w:Way):List Lk:=Τ (trP m w)
def NQ (L:List Lk) (N:Nat):List Int:=((pR ((N:Int),L)).getD ([],0)).1
def aeU {L:List Lk} {N:Nat} (hS:kh L N) (hno:jo L N=false):pR ((N:Int),L)=some (NQ L N,0)∧Et L (NQ L N)=0∧(NQ L N).length≤N:=by
 obtain⟨K,l,h1,_,h3,h4⟩:=afD hS hno;obtain⟨q,q1,q2,_,q4,_⟩:=WI hS h1 (ft h3) (fP h3)
 have e:NQ L N=q:=by unfold NQ; rw[h4,q1]; rfl
 rw[e];exact⟨by rw[h4,q1],q4,by omega⟩
section
variable {m:Ū} {w:Way} {ρ:Type}
def afO (n:Nat):(((n:Int)+1,Τ (trP m w)):Sys)=(((n+1:Nat):Int),Τ (trP m w)):=by simp
def aa1 (m:Ū):List (List Int)×Int:=if ζ m≠0 then([],ζ m) else if vw m then([],5) else((sE m.2).map fun w=>NQ (sT m w) (nT m w),0)
def ahg (hs:In m.1) (hn:m.2.length≤1000):AX m=some (aa1 m):=by
 unfold AX Mc aa1;rw[oZ hs hn,À]
 by_cases hc:ζ m=0
 ·have h:=(Ι m).1 hc;have hl2:=Km h;have hm:((((m.1.1.1,m.1.1.2),m.1.2.1,m.1.2.2.1,m.1.2.2.2.1,m.1.2.2.2.2.1,m.1.2.2.2.2.2),m.2):Ū)=m:=rfl;rw[Ò (by simp[ine,hc]),if_neg (by simp[hc]),acw h,À];refine Wd (sE m.2) (fun i=>((sE m.2).take i).map fun w=>NQ (sT m w) (nT m w)) _ (fun i=>∀w∈(sE m.2).take i,sZ m w=false) rfl (fun w hw=>by simp at hw) (fun i x hi hx hp kn=>?_) (fun hp kn=>?_)
  ·try dsimp only
   unfold tO;have hg:=rh h (KT hx);rw[Õ hi,È hx,hm,zm h (KT hx),À,W7 h (KT hx),À];dsimp only;rw[afO]
   cases he:sZ m x with
   |true =>
    refine .inl ?_;rw[ab4 hg.sys he,À];have:vw m=true:=du.2 ⟨x,cO hx,he⟩;rw[this]; rfl
   |false =>
    refine .inr ⟨fun w hw=>?_,?_⟩
    ·rw[take_succ hx] at hw;rcases cM.1 hw with hw|hw
     ·exact hp w hw
     ·rw[cP.1 hw]; exact he
    ·rw[(aeU hg.sys he).1,À,Ò (by rfl),ÿ (Ú (by simp; omega)),Î hi (by omega),take_succ hx,eJ]; rfl
  ·rw[fJ] at hp
   try dsimp only
   unfold tO
   have:vw m=false:=eF.2 fun w hw=>by rw[show sZ m w=false from hp w hw]; simp
   rw[â,fJ,this]; rfl
 ·rw[Ü (by simp[ine,hc]),if_pos hc]
def Hb (m:Ū) (w:Way):Bool×Int:=if yL m w≠0 then(false,yL m w) else(sZ m w,0)
def Zk (hs:In m.1) (hn:m.2.length≤1000) (hw:∀l∈w,l.length≤100000):pQ m w=some (Hb m w):=by
 unfold pQ zW Hb;rw[WV hs hn hw,À]
 by_cases hc:yL m w=0
 ·obtain⟨h,ho⟩:=En.1 hc;rw[Ò (by simp[ine,hc]),if_neg (by simp[hc]),yp h ho]; rfl
 ·rw[Ü (by simp[ine,hc]),if_pos hc]
def Zg (m:Ū) (w:Way):Int×Int:=if yL m w≠0 then(0,yL m w) else(KS m.2 w,0)
def acf (hs:In m.1) (hn:m.2.length≤1000) (hw:∀l∈w,l.length≤100000):wL m w=some (Zg m w):=by
 unfold wL HN Zg;rw[WV hs hn hw,À]
 by_cases hc:yL m w=0
 ·obtain⟨h,ho⟩:=En.1 hc;rw[Ò (by simp[ine,hc]),if_neg (by simp[hc]),h.wgt ho]; rfl
 ·rw[Ü (by simp[ine,hc]),if_pos hc]
def wH (b:ò) (x:Int):Prop:=∃g,ç b x=some g
def yj {b:ò} {x d:Int}:mQ b x d=0↔(0≤d∧d≤20000)∧wH b x:=by
 unfold mQ wH;rw[←Option.isSome_iff_exists]
 cases hd:GW d with
 |false =>
  simp only[eQ,if_true];simp only[GW,inP,gT,decide_eq_false_iff_not] at hd;constructor
  ·intro e; cases e
  ·rintro⟨e,_⟩; omega
 |true =>
  simp only[GW,inP,cH,decide_eq_true_eq] at hd
  cases ç b x<;>simp[hd]
def MOk.whoK (h:MOk m) (hw:Į m.2 w) {d x:Int} (hx:wH m.1 x):wH m.1 (Ň m.2 w x d) :=
 Xr (wH m.1) hw (fun y hy _ z hz=>let ⟨g,e,_⟩:=(h.mix hy).known z hz; ⟨g,e⟩) hx
def vm (b:ò) (n:Int×Int):(Int×Int)×Int:=if (g8 b n).2≠0 then((0,0),(g8 b n).2) else(ivR (g8 b n).1 n,0)
def Uk {b:ò} (h:ahW b) {n:Int×Int} (e:(g8 b n).2=0):ahW (g8 b n).1∧Bj (g8 b n).1 n:=by
 rcases zo e with⟨h1,h2⟩|⟨h1,h2,_⟩
 ·rw[h1];exact⟨h,(Gz h.good).1 h2⟩
 ·rw[h1];refine⟨⟨h2,?_,h.num⟩,Wf n h2⟩;obtain⟨f,z,hh⟩:=(zF h.good).1 h.op;exact(zF h2).2 ⟨f,z,Nf.2 hh⟩
def Ni {B:ò} (h:ahW B) {n:Int×Int} (hn:Bj B n) (K:(Int×Int)×Int→Option ρ) :
 (Ä (iY B n) fun r3=>Ä (iX B) fun r4=>Ä (wM r4.1) fun r5=>ifb (ine r5.2 (0:Int)) (K (((0:Int),(0:Int)),r5.2)) (ą r5.1 r3.1 fun e6=>K (e6,(0:Int))))=K (ivR B n,0):=by
 have hI:In B:=⟨h.good.size,h.num⟩;have hi:=(Gz h.good).2 hn;have hr:=Iv B n;have hsp:=ahc h.good.sys h.good.tied h.op;rw[Bk hI,À,Ha,if_neg (by simp[(ė _).2 h.good]),if_neg hi,Oc hI,À,IW,if_neg (by simp[(ė _).2 h.good])];dsimp only;rw[show((((Ñ B).length:Int)+1,Τ B):Sys)=((((Ñ B).length+1:Nat):Int),Τ B) by simp,hsp,À,Ò (by rfl)];obtain⟨k,hk⟩:∃k:Nat,Kg B n.1 n.2=k:=⟨(Kg B n.1 n.2).toNat,by omega⟩;rw[hk,È (abg (by omega))];unfold ivR agM;rw[hk]
def ad1 {b:ò} (h:ahW b) (n:Int×Int):BI b n=some (vm b n):=by
 have hI:In b:=⟨h.good.size,h.num⟩;have hc:=(ė _).2 h.good;unfold BI HH vm;rw[Bk hI,À]
 by_cases hi:Kg b n.1 n.2=0
 ·have e1:(Ha b n).2=5:=by unfold Ha; rw[if_neg (by simp[hc]),if_pos hi]
  rw[Ü (by simp[ine,e1]),afx hI,À,Zi,if_neg (by simp[hc])]
  by_cases h2:ě (ţ b n)=0
  ·have e:g8 b n=(ţ b n,0):=by unfold g8; rw[if_neg (by simp[hi]),if_neg (by simp[h2])]
   obtain⟨r1,r2⟩:=Uk h (n:=n) (by rw[e]);rw[e] at r1 r2;rw[if_neg (by simp[h2]),Ò (by rfl),Ni r1 r2,e,if_neg (by simp)]
  ·have e:g8 b n=(IR,ě (ţ b n)):=by unfold g8; rw[if_neg (by simp[hi]),if_pos h2]
   rw[if_pos h2,Ü (by simp[ine,h2]),e,if_pos h2]
 ·have e1:(Ha b n).2=0:=by unfold Ha; rw[if_neg (by simp[hc]),if_neg hi]
  have e:g8 b n=(b,0):=by unfold g8; rw[if_pos hi]
  rw[Ò (by simp[ine,e1]),←Bk hI,Ni h ((Gz h.good).1 hi),e,if_neg (by simp)]
def aep {α β:Type} {f:α→Option β}:∀{l:List α} {i:Nat} {x:α} {e:β},l[i]?=some x→(∀w∈l.take i,f w=none)→f x=some e→l.findSome? f=some e
 |[],_,_,_,h,_,_=>by simp at h
 |y::l,0,x,e,h,_,he=>by simp at h; subst h; rw[f6,he]
 |y::l,i+1,x,e,h,hp,he=>by
  rw[f6,hp y (by simp)];exact aep (by simpa using h) (fun w hw=>hp w (by simp[hw])) he
abbrev Fnd:=List (Int×(Int×Int))
def abR (s t:Int×Int):Int×Int:=(min s.1 t.1,max s.2 t.2)
def aeq (m:Ū) (label d:Int) (M:Fnd) (w:Way):Fnd :=
 Lw (k:=tI) (v:=Ã) (Ň m.2 w label d) (match nS (k:=tI) (v:=Ã) (Ň m.2 w label d) M with|some s=>abR (vm (trP m w) (Ň m.2 w label d,d)).1 s|none=>(vm (trP m w) (Ň m.2 w label d,d)).1) M
def oh (m:Ū) (label d:Int) (l:List Way):Fnd:=l.foldl (aeq m label d) []
def Xu (m:Ū) (label d:Int) (w:Way):Int:=(vm (trP m w) (Ň m.2 w label d,d)).2
def kj (m:Ū) (label d:Int):List (Int×Int×Int)×Int :=
 if ζ m≠0 then([],ζ m) else if mQ m.1 label d≠0 then([],mQ m.1 label d) else if jM m=[] then([],5) else
 match (jM m).findSome? fun w=>Xm (Xu m label d w) with
 |some e=>([],e)
 |none=>(m.1.2.1.filterMap fun g=>(nS (k:=tI) (v:=Ã) g.1 (oh m label d (jM m))).map fun s=>(g.1,s),0)
def Tt (hw:w∈jM m):Į m.2 w∧sZ m w=true:=by
 obtain⟨h1,h2⟩:=dH.1 hw;exact⟨vv.1 h1,h2⟩
def aao (h:MOk m):(jM m).length≤150:=cY (dV _ _) (Km h)
def ac2 (h:MOk m) (hw:Į m.2 w) (he:sZ m w=true):ahW (trP m w):=⟨rh h hw,he,h.in_.num⟩
def Xf (hs:In m.1) (hn:m.2.length≤1000) (label d:Int):oQ m label d=some (kj m label d):=by
 unfold oQ HQ kj;rw[oZ hs hn,À]
 by_cases hc:ζ m=0
 ·have h:=(Ι m).1 hc;have hG:=hs.size.gauges;have hgl:=aao h;rw[Ò (by simp[ine,hc]),if_neg (by simp[hc]),aaf hG,À]
  by_cases hk:mQ m.1 label d=0
  ·rw[Ò (by simp[ine,hk]),if_neg (by simp[hk]),aeg h,À]
   by_cases hnil:jM m=[]
   ·rw[Ü (by simp[ieq,Ý,hnil]),if_pos hnil]
   ·have:(jM m).length≠0:=fun e=>hnil (cV.1 e);rw[Ò (by simp[ieq,Ý,hnil]),if_neg hnil];have key:∀(l:List Way),(∀w∈l,Xm (Xu m label d w)=none)→l.findSome? (fun w=>Xm (Xu m label d w))=none:=fun l hl=>List.findSome?_eq_none_iff.2 hl;refine Wd (jM m) (fun i=>oh m label d ((jM m).take i)) _ (fun i=>∀w∈(jM m).take i,Xm (Xu m label d w)=none) rfl (fun w hw=>by simp at hw) (fun i x hi hx hp kn=>?_) (fun hp kn=>?_)
    ·obtain⟨x1,x2⟩:=Tt (cO hx);have hroom:=ac2 h x1 x2
     try dsimp only
     unfold qA;rw[Õ hi,È hx,show((((m.1.1.1,m.1.1.2),m.1.2.1,m.1.2.2.1,m.1.2.2.2.1,m.1.2.2.2.2.1,m.1.2.2.2.2.2),m.2):Ū)=m from rfl,h.who x1,À,zm h x1,À,ad1 hroom,À]
     by_cases he:Xu m label d x=0
     ·refine .inr ⟨fun w hw=>?_,?_⟩
      ·rw[take_succ hx] at hw;rcases cM.1 hw with hw|hw
       ·exact hp w hw
       ·rw[cP.1 hw,he]; rfl
      ·unfold Xu at he
       have hst:oh m label d ((jM m).take (i+1))=aeq m label d (oh m label d ((jM m).take i)) x:=by rw[take_succ hx,oh,List.foldl_append]; rfl
       rw[Ò (by simp[ine,he]),hst];unfold aeq KD
       cases nS (k:=tI) (v:=Ã) (Ň m.2 x label d) (oh m label d ((jM m).take i)) with
       |none=>dsimp only; rw[Î hi (by omega)]
       |some s =>
        dsimp only;rw[Î hi (by omega),YM,aec]; rfl
     ·refine .inl ?_
      have hfs:(jM m).findSome? (fun w=>Xm (Xu m label d w))=some (Xu m label d x):=by
       exact aep hx hp (by simp[Xm,he])
      rw[hfs];unfold Xu at he ⊢;rw[Ü (by simp[ine,he])]
    ·rw[fJ] at hp
     try dsimp only
     unfold qA;rw[â,key _ hp,List.take_length];dsimp only;refine ĵ m.1.2.1 (fun i=>(m.1.2.1.take i).filterMap fun g=>(nS (k:=tI) (v:=Ã) g.1 (oh m label d (jM m))).map fun s=>(g.1,s)) _ rfl (fun i g hi hg kn'=>?_) (fun kn'=>?_)
     ·try dsimp only
      unfold qz;have hle:((m.1.2.1.take i).filterMap fun g=>(nS (k:=tI) (v:=Ã) g.1 (oh m label d (jM m))).map fun s=>(g.1,s)).length≤1000:=Nat.le_trans (List.length_filterMap_le _ _) (by rw[List.length_take]; omega);rw[Õ hi,È hg,take_succ hg,List.filterMap_append];unfold KD
      cases hmg:nS (k:=tI) (v:=Ã) g.1 (oh m label d (jM m)) with
      |none=>simp only[List.filterMap_cons,hmg,Option.map_none,List.filterMap_nil,dh]; rw[Î hi (by omega)]
      |some s =>
       simp only[List.filterMap_cons,hmg,dK,List.filterMap_nil];rw[ÿ (Ú (by rw[dI]; omega)),Î hi (by omega)]
     ·try dsimp only
      unfold qz;rw[â,List.take_length]
  ·rw[Ü (by simp[ine,hk]),if_pos hk]
 ·rw[Ü (by simp[ine,hc]),if_pos hc]
end
def adJ {ρ α:Type} (l:List α) (K:Option ρ) {f:Int→(Int→Option ρ)→Option ρ} (h:∀(i:Nat) (a:α),i<l.length→l[i]?=some a→∀kn,f i kn=kn ((i:Int)+1)) (hn:∀kn,f l.length kn=K):Í f 0=K:=by
 refine eW (j7 l (fun _=>false) (fun _=>K) K (fun i a hi ha kn=>by rw[h i a hi ha kn]; rfl) hn) ?_;rw[dE.2 (by simp)]
def Qb (x y:Int) (s:Int×Int):∀M:Fnd,nS (k:=tI) (v:=Ã) x (Lw (k:=tI) (v:=Ã) y s M)=if x=y then some s else nS (k:=tI) (v:=Ã) x M
 |[]=>by
  unfold Lw nS Υ nS
  by_cases h:x=y<;>simp[h]
 |e::M=>by
  unfold Lw
  by_cases h:y=e.1
  ·have:Υ tI y e.1=true:=by simp[Υ,h]
   rw[this];simp only;unfold nS
   by_cases hx:x=y
   ·subst hx; simp[Υ]
   ·have:Υ tI x y=false:=by simp[Υ,hx]
    have h2:Υ tI x e.1=false:=by simp[Υ,←h,hx]
    rw[this,if_neg hx];simp only[h2]
  ·have:Υ tI y e.1=false:=by simp[Υ,h]
   rw[this];simp only;unfold nS
   by_cases hx:x=e.1
   ·subst hx;rw[if_neg (fun e=>h e.symm)];simp[Υ]
   ·have h2:Υ tI x e.1=false:=by simp[Υ,hx]
    rw[h2];exact Qb x y s M
section
variable {m:Ū} {label d:Int}
def aa6 (m:Ū) (label d:Int) (w:Way):Int×Int:=(vm (trP m w) (Ň m.2 w label d,d)).1
def ahZ (m:Ū) (label d:Int) (l:List Way) (g:Int):Option (Int×Int)→Prop
 |none=>∀w∈l,Ň m.2 w label d≠g
 |some s=>(∃w∈l,Ň m.2 w label d=g∧(aa6 m label d w).1=s.1)∧(∃w∈l,Ň m.2 w label d=g∧(aa6 m label d w).2=s.2)∧∀w∈l,Ň m.2 w label d=g→s.1≤(aa6 m label d w).1∧(aa6 m label d w).2≤s.2
def abT (l:List Way) (w:Way):oh m label d (l++[w])=aeq m label d (oh m label d l) w:=by rw[oh,List.foldl_append]; rfl
def QE (g:Int):∀n (l:List Way),l.length=n→ahZ m label d l g (nS (k:=tI) (v:=Ã) g (oh m label d l))
 |0,l,h=>by
  have:l=[]:=cV.1 h;subst this;intro w hw; cases hw
 |n+1,l,h=>by
  obtain⟨l',w,rfl⟩:∃l' w,l=l'++[w]:=⟨l.dropLast,l.getLast (by intro e; rw[e] at h; simp at h),(List.dropLast_concat_getLast _).symm⟩;have ih:=QE g n l' (by simpa using h);rw[abT,aeq,Qb]
  by_cases hg:g=Ň m.2 w label d
  ·rw[if_pos hg,←hg]
   cases hm:nS (k:=tI) (v:=Ã) g (oh m label d l') with
   |none =>
    rw[hm] at ih;dsimp only;refine⟨⟨w,by simp,hg.symm,by unfold aa6; rw[←hg]⟩,⟨w,by simp,hg.symm,by unfold aa6; rw[←hg]⟩,fun v hv e=>?_⟩;rcases List.mem_append.1 hv with hv|hv
    ·exact absurd e (ih v hv)
    ·rw[List.mem_singleton.1 hv];unfold aa6;rw[←hg];exact⟨Int.le_refl _,Int.le_refl _⟩
   |some s =>
    rw[hm] at ih;dsimp only;obtain⟨⟨w1,a1,a2,a3⟩,⟨w2,b1,b2,b3⟩,c⟩:=ih
    have hw:(vm (trP m w) (g,d)).1=aa6 m label d w:=by unfold aa6; rw[←hg]
    rw[hw];refine⟨?_,?_,fun v hv e=>?_⟩
    ·rcases Int.le_total (aa6 m label d w).1 s.1 with h1|h1
     ·exact⟨w,by simp,hg.symm,by unfold abR; omega⟩
     ·exact⟨w1,by simp[a1],a2,by unfold abR; omega⟩
    ·rcases Int.le_total (aa6 m label d w).2 s.2 with h1|h1
     ·exact⟨w2,by simp[b1],b2,by unfold abR; omega⟩
     ·exact⟨w,by simp,hg.symm,by unfold abR; omega⟩
    ·unfold abR;rcases List.mem_append.1 hv with hv|hv
     ·have:=c v hv e; omega
     ·rw[cP.1 hv]; omega
  ·rw[if_neg hg]
   cases hm:nS (k:=tI) (v:=Ã) g (oh m label d l') with
   |none =>
    rw[hm] at ih;intro v hv;rcases cM.1 hv with hv|hv
    ·exact ih v hv
    ·rw[cP.1 hv]; exact fun e=>hg e.symm
   |some s =>
    rw[hm] at ih;obtain⟨⟨w1,a1,a2,a3⟩,⟨w2,b1,b2,b3⟩,c⟩:=ih;refine⟨⟨w1,by simp[a1],a2,a3⟩,⟨w2,by simp[b1],b2,b3⟩,fun v hv e=>?_⟩;rcases cM.1 hv with hv|hv
    ·exact c v hv e
    ·rw[cP.1 hv] at e; exact absurd e.symm hg
end
def aiA (m:Ū) (n:Int×Int):Ū:=(ţ m.1 n,m.2)
def ah3 (m:Ū) (w:Way) (n:Int×Int):trP (aiA m n) w=ţ (trP m w) (yP m w n):=by
 show(_,_,_,_,_,(m.1.2.2.2.2.2++[n]).map _)=_;rw[eJ];rfl
def abK {b:ò} {n:Int×Int}:Bj b n↔n∈Ñ b:=pf.symm
def adO (b:ò) (n:Int×Int):Int:=if 10≤b.2.2.2.2.2.length then 2 else if Hg (ĕ b) n.1 n.2≠0 then Hg (ĕ b) n.1 n.2 else if 59<(Ñ (ţ b n)).length then 2 else if 300<2*(Ñ (ţ b n)).length+2*b.2.2.2.2.1.length then 2 else 0
def Il {b:ò} (h:Ő b) (n:Int×Int):ě (ţ b n)=adO b n:=by
 have h1:=h.nG; have h2:=h.nU; have h3:=h.nL; have h4:=h.nC; have h5:=h.nK
 have hf:km b.1 0 1000000=true:=by simp[km]; exact h.film
 unfold ě adO;show(if !km b.1 0 1000000 then(1:Int) else if 12<b.2.1.length then 2 else if 40<b.2.2.1.length then 2 else if 12<b.2.2.2.1.length then 2 else if 40<b.2.2.2.2.1.length then 2 else if 10<(b.2.2.2.2.2++[n]).length then 2 else _)=_;rw[hf,if_neg (by simp),if_neg (by omega),if_neg (by omega),if_neg (by omega),if_neg (by omega),List.length_append,List.length_singleton]
 by_cases hk:10≤b.2.2.2.2.2.length
 ·rw[if_pos (by omega),if_pos hk]
 ·rw[if_neg (by omega),if_neg hk];have hge:nE (ţ b n)=0:=(Ee _).2 ⟨h.gauge,h.ids⟩;rw[hge,if_neg (by simp)]
  have hparts:(mX (ţ b n) (ĕ (ţ b n))).find? (fun e=>e != 0)=if Hg (ĕ b) n.1 n.2≠0 then some (Hg (ĕ b) n.1 n.2) else none:=by
   have e:mX (ţ b n) (ĕ (ţ b n))=mX b (ĕ b)++[Hg (ĕ b) n.1 n.2]:=by
    unfold mX;show b.2.2.1.map _++(b.2.2.2.1.mapIdx _++(b.2.2.2.2.1.mapIdx _++(b.2.2.2.2.2++[n]).map _))=_;rw[List.map_append];simp only[List.append_assoc];rfl
   have hz:(mX b (ĕ b)).find? (fun e=>e != 0)=none:=by
    rw[List.find?_eq_none];intro e he;unfold mX at he;simp only[List.mem_append,List.mem_map,List.mem_mapIdx] at he;rcases he with⟨u,hu,rfl⟩|⟨i,hi,rfl⟩|⟨i,hi,rfl⟩|⟨u,hu,rfl⟩
    ·simp[h.uses u hu]
    ·simp[h.loans i _ (cF hi)]
    ·simp[h.compares i _ (cF hi)]
    ·simp[h.looks u hu]
   rw[e,List.find?_append,hz,Option.none_or,fw]
   by_cases hu:Hg (ĕ b) n.1 n.2=0
   ·simp[hu]
   ·rw[show(Hg (ĕ b) n.1 n.2 != 0)=true from bne_iff_ne.2 hu,if_pos hu]
  rw[hparts]
  by_cases hu:Hg (ĕ b) n.1 n.2=0
  ·rw[if_neg (show ¬(Hg (ĕ b) n.1 n.2≠0) from fun h=>h hu),if_neg (show ¬(Hg (ĕ b) n.1 n.2≠0) from fun h=>h hu)];dsimp only;have hl:(ţ b n).2.1.length=b.2.1.length∧(ţ b n).2.2.2.2.1.length=b.2.2.2.2.1.length:=⟨rfl,rfl⟩;rw[hl.1,hl.2]
   split
   ·rfl
   ·by_cases hh:300<2*(Ñ (ţ b n)).length+2*b.2.2.2.2.1.length
    ·rw[if_pos (by omega),if_pos hh]
    ·rw[if_neg (by omega),if_neg hh]
  ·rw[if_pos hu,if_pos hu]
def Z6 {b:ò} (hi:b.2.1.Pairwise fun a c=>a.1<c.1) {n:Int×Int} (hn:∃g,ç b n.1=some g):(Ñ (ţ b n)).length=if n∈Ñ b then(Ñ b).length else(Ñ b).length+1:=by
 have key:∀g∈b.2.1,∀e,e∈é (ţ b n) g↔e∈é b g∨(n.1=g.1∧n.2=e):=fun g _ e=>by
  rw[ε,ε];show _∨_∨(∃x∈b.2.2.2.2.2++[n],x.1=g.1∧x.2=e)↔_;simp only[cM,cP];constructor
  ·rintro(h|h|⟨x,hx|rfl,h⟩)
   ·exact .inl (.inl h)
   ·exact .inl (.inr (.inl h))
   ·exact .inl (.inr (.inr ⟨x,hx,h⟩))
   ·exact .inr h
  ·rintro((h|h|⟨x,hx,h⟩)|h)
   ·exact .inl h
   ·exact .inr (.inl h)
   ·exact .inr (.inr ⟨x,.inl hx,h⟩)
   ·exact .inr (.inr ⟨n,.inr rfl,h⟩)
 have mem:∀p:Int×Int,p∈Ñ (ţ b n)↔p∈Ñ b∨p=n:=fun p=>by
  rw[show p=(p.1,p.2) from rfl,pf,pf];constructor
  ·rintro⟨g,hg,e,hd⟩;have hg:g∈b.2.1:=hg;rcases(key g hg p.2).1 hd with h|⟨h1,h2⟩
   ·exact .inl ⟨g,hg,e,h⟩
   ·exact .inr (Prod.ext (e.symm.trans h1.symm) h2.symm)
  ·rintro(⟨g,hg,e,hd⟩|h)
   ·exact⟨g,hg,e,(key g hg p.2).2 (.inl hd)⟩
   ·obtain⟨g,hgo⟩:=hn;obtain⟨g1,g2⟩:=Š hgo;have h1:p=n:=h;subst h1;exact⟨g,g1,g2,(key g g1 p.2).2 (.inr ⟨g2.symm,rfl⟩)⟩
 have nd:=xc (b:=ţ b n) hi;have nd0:=xc hi
 split
 ·rename_i hin;exact Nat.le_antisymm (dW nd fun p hp=>((mem p).1 hp).elim id fun e=>e▸hin) (dW nd0 fun p hp=>(mem p).2 (.inl hp))
 ·rename_i hin;have nd1:(n::Ñ b).Nodup:=eT.2 ⟨hin,nd0⟩;have:=Nat.le_antisymm (dW nd (l₂:=n::Ñ b) fun p hp=>((mem p).1 hp).elim (fun h=>di _ h) fun e=>by rw[e]; simp) (dW nd1 fun p hp=>(cN.1 hp).elim (fun e=>(mem p).2 (.inr e)) fun h=>(mem p).2 (.inl h));rw[this,cW]
section
variable {m:Ū} {w:Way} {n:Int×Int}
def Z1 (h:MOk m) (hw:Į m.2 w):yP m w n∈Ñ (trP m w)↔n∈Ñ m.1:=by
 constructor
 ·intro hn;obtain⟨x,e,hx⟩:=I2 (y:=(yP m w n).1) (d:=n.2) h hw hn;have:x=n.1:=h.inj hw e;subst this;exact hx
 ·intro hn;exact acH h hw (x:=n.1) (d:=n.2) hn
def use_T (h:MOk m) (hw:Į m.2 w) (hk:wH m.1 n.1):Hg (ĕ (trP m w)) (yP m w n).1 n.2=Hg (ĕ m.1) n.1 n.2:=by
 show Hg (ĕ m.1) (Ň m.2 w n.1 n.2) n.2=_;unfold Hg
 cases hd:GW n.2 with
 |false=>rfl
 |true =>
  simp only[dD,cX,if_false];obtain⟨g,hg⟩:=hk
  by_cases hm:g.2.1≤n.2
  ·rw[(vI h.good.ids).2 ⟨g,hg,hm⟩,(vI h.good.ids).2 (h.whoG hw ⟨g,hg,hm⟩)]
  ·have:Ň m.2 w n.1 n.2=n.1:=Ex hw fun y hy hd hx=>by
    obtain⟨g',e1,e2⟩:=(h.mix hy).known _ hx;rw[hg] at e1; cases e1;omega
   rw[this]
def look_T (h:MOk m) (hw:Į m.2 w) (hk:wH m.1 n.1):ě (ţ (trP m w) (yP m w n))=ě (ţ m.1 n):=by
 have hg:=rh h hw
 have e1:(trP m w).2.2.2.2.2.length=m.1.2.2.2.2.2.length:=by show(m.1.2.2.2.2.2.map _).length=_; rw[dz]
 have e2:(trP m w).2.2.2.2.1.length=m.1.2.2.2.2.1.length:=by show(m.1.2.2.2.2.1.map _).length=_; rw[dz]
 have hk':∃g,ç (trP m w) (yP m w n).1=some g:=h.whoK hw hk;have e3:=Z6 (b:=trP m w) (acI h) hk';have e4:=Z6 (b:=m.1) h.good.ids hk
 have e5:(Ñ (ţ (trP m w) (yP m w n))).length=(Ñ (ţ m.1 n)).length:=by
  rw[e3,e4,ahp h hw]
  by_cases hn:n∈Ñ m.1
  ·rw[if_pos ((Z1 h hw).2 hn),if_pos hn]
  ·rw[if_neg fun hx=>hn ((Z1 h hw).1 hx),if_neg hn]
 rw[Il hg,Il h.good,adO,adO,e1,e2,e5];have:=use_T h hw hk;rw[show Hg (ĕ (trP m w)) (yP m w n).1 (yP m w n).2=_ from this]
def aaj {b:ò} (h:Ő b) {n:Int×Int}:Kg b n.1 n.2=0↔n∉Ñ b:=by
 rw[←abK,←Gz h];omega
def acP (h:MOk m) (hw:Į m.2 w) (hk:wH m.1 n.1):g8 (trP m w) (yP m w n)=if n∈Ñ m.1 then(trP m w,0) else if ě (ţ m.1 n)≠0 then(IR,ě (ţ m.1 n)) else(trP (aiA m n) w,0):=by
 have hg:=rh h hw;unfold g8;rw[look_T h hw hk,ah3]
 by_cases hn:n∈Ñ m.1
 ·rw[if_pos (fun e=>(aaj hg).1 e ((Z1 h hw).2 hn)),if_pos hn]
 ·rw[if_neg (by have:=(aaj hg).2 fun hx=>hn ((Z1 h hw).1 hx); simpa using this),if_neg hn]
def aib (h:MOk m) (hw:Į m.2 w) (hk:wH m.1 n.1) (hn:n∈Ñ m.1):g8 (trP m w) (yP m w n)=(trP m w,0):=by rw[acP h hw hk,if_pos hn]
def afR (h:MOk m) (hw:Į m.2 w) (hk:wH m.1 n.1) (hn:n∉Ñ m.1) (hc:ě (ţ m.1 n)≠0):g8 (trP m w) (yP m w n)=(IR,ě (ţ m.1 n)):=by rw[acP h hw hk,if_neg hn,if_pos hc]
def afQ (h:MOk m) (hw:Į m.2 w) (hk:wH m.1 n.1) (hn:n∉Ñ m.1) (hc:ě (ţ m.1 n)=0):g8 (trP m w) (yP m w n)=(trP (aiA m n) w,0):=by rw[acP h hw hk,if_neg hn,if_neg (fun e=>e hc)]
def K6 (m:Ū) (n:Int×Int):Int:=if n∈Ñ m.1 then 0 else ě (ţ m.1 n)
def acy (h:MOk m) (hw:Į m.2 w) (hk:wH m.1 n.1):Xu m n.1 n.2 w=K6 m n:=by
 unfold Xu vm K6;rw[show((Ň m.2 w n.1 n.2,n.2):Int×Int)=yP m w n from rfl]
 by_cases hn:n∈Ñ m.1
 ·rw[aib h hw hk hn,if_pos hn,if_neg (by simp)]
 ·rw[if_neg hn]
  by_cases hc:ě (ţ m.1 n)=0
  ·rw[afQ h hw hk hn hc,if_neg (by simp),hc]
  ·rw[afR h hw hk hn hc,if_pos hc]
def WF (h:MOk m) (label d:Int):kj m label d=if mQ m.1 label d≠0 then([],mQ m.1 label d) else if jM m=[] then([],5) else if K6 m (label,d)≠0 then([],K6 m (label,d)) else
 (m.1.2.1.filterMap fun g=>(nS (k:=tI) (v:=Ã) g.1 (oh m label d (jM m))).map fun s=>(g.1,s),0):=by
 have hc:¬(ζ m≠0):=fun e=>e ((Ι m).2 h);unfold kj;rw[if_neg hc]
 by_cases hk:mQ m.1 label d=0
 ·have hk':¬(mQ m.1 label d≠0):=fun e=>e hk;rw[if_neg hk',if_neg hk']
  by_cases hg:jM m=[]
  ·rw[if_pos hg,if_pos hg]
  ·rw[if_neg hg,if_neg hg];have hkg:=(yj.1 hk).2;have hw:∀w∈jM m,Xu m label d w=K6 m (label,d):=fun w hw=>acy (n:=(label,d)) h (Tt hw).1 hkg
   by_cases he:K6 m (label,d)=0
   ·have:(jM m).findSome? (fun w=>Xm (Xu m label d w))=none:=List.findSome?_eq_none_iff.2 fun w hw'=>by rw[hw w hw',he]; rfl
    rw[this,if_neg (fun e=>e he)]
   ·have:(jM m).findSome? (fun w=>Xm (Xu m label d w))=some (K6 m (label,d)):=by
     cases hgl:jM m with
     |nil=>exact absurd hgl hg
     |cons x t =>
      rw[f6,hw x (by rw[hgl]; simp)];simp[Xm,he]
    rw[this,if_pos he]
 ·rw[if_pos hk,if_pos hk]
end
abbrev Lif:=Int×List Int
def Oh (x:Lif) (made day:Int):Int:=x.1-(x.2.take (day-made).toNat).sum
section
variable {ρ:Type}
def Zz {M:Int}:∀{l:List Int},(∀a∈l,0≤a∧a≤M)→0≤l.sum∧l.sum≤l.length*M
 |[],_=>by simp
 |a::t,h=>by
  have h1:=Zz fun b hb=>h b (di a hb);have h2:=h a (by simp);rw[List.sum_cons,cW]
  have:((t.length+1:Nat):Int)*M=t.length*M+M:=by rw[eY,fu]; omega
  omega
def YF {g:ï} {x:Lif} (hg:0≤g.2.1∧g.2.1≤20000) (h1 : -2000000000000000≤x.1∧x.1≤2000000000000000) (h2:x.2.length≤60) (h3:∀a∈x.2,0≤a∧a≤1000000000000) (day:Int):Ì g x day=some (Oh x g.2.1 day):=by
 unfold Ì jE Oh;refine đ (fun v:Int×Int=>∃i:Nat,v.2=i∧i≤x.2.length∧(i:Int)≤max 0 (day-g.2.1)∧v.1=x.1-(x.2.take i).sum) (fun v=>x.2.length-v.2.toNat) ?_ ⟨0,rfl,Nat.zero_le _,by simp; omega,by simp⟩;rintro⟨s,n⟩ ⟨i,e,hi,hd,hs⟩;dsimp only at e hs;subst e hs;have hb:=Zz (M:=1000000000000) (l:=x.2.take i) fun a ha=>h3 a (List.mem_of_mem_take ha);rw[List.length_take] at hb;have hmin:((min i x.2.length:Nat):Int)*1000000000000≤60*1000000000000:=Int.mul_le_mul_of_nonneg_right (by omega) (by omega);rcases Nat.lt_or_ge i x.2.length with hlt|hge
 ·have ha:x.2[i]?=some x.2[i]:=cF hlt;have hab:=h3 _ (eN hlt)
  by_cases hday:g.2.1+i<day
  ·refine .inr ⟨(x.1-(x.2.take (i+1)).sum,(i:Int)+1),⟨i+1,by simp,hlt,by omega,rfl⟩,by simp only[cT]; omega,fun kn=>?_⟩
   have e:x.1-(x.2.take i).sum-x.2[i]=x.1-(x.2.take (i+1)).sum:=by rw[take_succ ha,List.sum_append]; simp; omega
   try dsimp only
   unfold Ļ;rw[Õ hlt,Ð (by omega) (by omega),Ü (decide_eq_true hday),È ha,Ð (by omega) (by omega),Î hlt (by omega),e]
  ·refine .inl fun kn=>?_
   try dsimp only
   unfold Ļ
   have e:(day-g.2.1).toNat=i:=by omega
   rw[Õ hlt,Ð (by omega) (by omega),Ò (decide_eq_false hday),e]
 ·refine .inl fun kn=>?_
  obtain rfl:i=x.2.length:=by omega
  try dsimp only
  unfold Ļ;rw[â,List.take_length,List.take_of_length_le (by omega)]
def agj (b:ò) (g:ï) (l:List Int) (k:Nat):Bool:=match l[k]? with
 |some a=>decide ((T2 b g.1 (g.2.1+k) (g.2.1+k+1)).2=0)&&(!decide (a<0)&&!decide ((T2 b g.1 (g.2.1+k) (g.2.1+k+1)).1<a))
 |none=>false
def ad0 (b:ò) (g:ï) (x:Lif):Bool:=!decide (x.1<g.2.2.1+g.2.2.2.1.1)&&(!decide (g.2.2.1+g.2.2.2.1.2<x.1)&&(!decide ((60:Int)<x.2.length)&&(List.range x.2.length).all (agj b g x.2)))
def yK (b:ò) (lives:List Lif):Bool:=decide (lives.length=b.2.1.length)&&(List.range lives.length).all fun i=>match b.2.1[i]?,lives[i]? with|some g,some x=>ad0 b g x|_,_=>false
def agp {b:ò} (hI:In b) (h:Ő b) (lives:List Lif):jj b lives=some (yK b lives):=by
 have hb':(((b.1.1,b.1.2),b.2.1,b.2.2.1,b.2.2.2.1,b.2.2.2.2.1,b.2.2.2.2.2):ò)=b:=rfl;have hG:=h.nG;unfold jj mj yK
 by_cases hl:lives.length=b.2.1.length
 case neg=>rw[Ü (by simp[ine,Ý]; omega),decide_eq_false hl,gk]
 rw[Ò (by simp[ine,Ý]; omega),decide_eq_true hl,dJ];refine eW (Bz lives.length (fun i=>match b.2.1[i]?,lives[i]? with|some g,some x=>ad0 b g x|_,_=>false) (some false) (some true) (fun i hi kn=>?_) (fun kn=>?_)) ?_
 ·have hx:lives[i]?=some lives[i]:=cF hi;have hg:b.2.1[i]?=some b.2.1[i]:=cF (by omega);have hgr:=h.gaugeR (cO hg);rw[hx,hg];generalize lives[i]=x at hx;generalize b.2.1[i]=g at hg hgr;show _=(if ad0 b g x=true then kn ((i:Int)+1) else some false);rw[←Ķ]
  try dsimp only
  unfold θ ad0;rw[Õ hi,È hg,È hx,Ð (by omega) (by omega)]
  by_cases h1:x.1<g.2.2.1+g.2.2.2.1.1
  ·rw[Ü (decide_eq_true h1),decide_eq_true h1]; rfl
  rw[Ò (decide_eq_false h1),decide_eq_false h1,Ð (by omega) (by omega)]
  by_cases h2:g.2.2.1+g.2.2.2.1.2<x.1
  ·rw[Ü (decide_eq_true h2),decide_eq_true h2]; rfl
  rw[Ò (decide_eq_false h2),decide_eq_false h2]
  by_cases h3:(60:Int)<x.2.length
  ·rw[Ü (by rw[Ý]; exact decide_eq_true h3),decide_eq_true h3]; rfl
  rw[Ò (by rw[Ý]; exact decide_eq_false h3),decide_eq_false h3,Î hi (by omega)];refine eW (Bz x.2.length (agj b g x.2) (some false) (kn ((i:Int)+1)) (fun k hk kn'=>?_) (fun kn'=>?_)) (by simp only[eQ,dJ]; rw[Ķ])
  ·have ha:x.2[k]?=some x.2[k]:=cF hk;rw[←Ķ]
   try dsimp only
   unfold η agj;rw[Õ hk,Ð (by omega) (by omega),Ð (by omega) (by omega),Ð (by omega) (by omega),hb',ai9 hI,À,ha];dsimp only
   by_cases q1:(T2 b g.1 (g.2.1+k) (g.2.1+k+1)).2=0
   ·rw[Ò (by rw[q1]; rfl),decide_eq_true q1,È ha]
    by_cases q2:x.2[k]<0
    ·rw[Ü (decide_eq_true q2),decide_eq_true q2]; rfl
    ·rw[Ò (decide_eq_false q2),decide_eq_false q2,È ha]
     by_cases q3:(T2 b g.1 (g.2.1+k) (g.2.1+k+1)).1<x.2[k]
     ·rw[Ü (decide_eq_true q3),decide_eq_true q3]; rfl
     ·rw[Ò (decide_eq_false q3),decide_eq_false q3,Î hk (by omega)]; rfl
   ·rw[Ü (by simp[ine,q1]),decide_eq_false q1]; rfl
  ·try dsimp only
   unfold η;rw[â]
 ·try dsimp only
  unfold θ;rw[â]
 ·generalize (List.range lives.length).all _=B
  cases B<;>rfl
structure Q4 (b:ò) (g:ï) (x:Lif):Prop where
 lo:g.2.2.1+g.2.2.2.1.1≤x.1
 hi:x.1≤g.2.2.1+g.2.2.2.1.2
 len:x.2.length≤60
 lost:∀(k:Nat) (a:Int),x.2[k]?=some a→0≤a∧a≤jF b g (g.2.1+k) (g.2.1+k+1)
def agk {b:ò} (h:Ő b) {g:ï} (hg:g∈b.2.1) {f t:Int} (e:(T2 b g.1 f t).2=0):(T2 b g.1 f t).1=jF b g f t∧0≤f∧t≤20000:=by
 unfold T2 at e ⊢
 by_cases ha:uC b g.1 [f,t]=0
 case neg=>rw[if_pos ha] at e; exact absurd e ha
 obtain⟨_,hd,x,hx,hm⟩:=N7 ha;have hx':=sk h.ids hg;rw[hx] at hx';cases hx';rw[if_neg (by simp[ha]),hm] at e ⊢;dsimp only at e ⊢;have d1:=hd f (by simp);have d2:=hd t (by simp)
 by_cases h1:t<f
 ·rw[if_pos h1] at e; exact absurd e (by simp)
 ·rw[if_neg h1] at e ⊢
  by_cases h2:f<g.2.1
  ·rw[if_pos h2] at e; exact absurd e (by simp)
  ·rw[if_neg h2]; exact⟨rfl,by omega,by omega⟩
def BA {b:ò} (h:Ő b) {lives:List Lif} (hl:yK b lives=true):lives.length=b.2.1.length∧∀(i:Nat) (g:ï) (x:Lif),b.2.1[i]?=some g→lives[i]?=some x→Q4 b g x:=by
 unfold yK at hl;rw[Bool.and_eq_true,decide_eq_true_eq,List.all_eq_true] at hl;refine⟨hl.1,fun i g x hg hx=>?_⟩;obtain⟨hi,_⟩:=List.getElem?_eq_some_iff.1 hx;have:=hl.2 i (List.mem_range.2 hi);rw[hg,hx] at this;unfold ad0 at this;simp only[Bool.and_eq_true,Bool.not_eq_true',decide_eq_false_iff_not,List.all_eq_true,List.mem_range] at this;obtain⟨a1,a2,a3,a4⟩:=this;refine⟨by omega,by omega,by omega,fun k a ha=>?_⟩;obtain⟨hk,_⟩:=List.getElem?_eq_some_iff.1 ha;have:=a4 k hk;unfold agj at this;rw[ha] at this;simp only[Bool.and_eq_true,Bool.not_eq_true',decide_eq_false_iff_not,decide_eq_true_eq] at this;obtain⟨b1,b2,b3⟩:=this;rw[(agk h (List.mem_of_getElem? hg) b1).1] at b3;omega
def zd (b:ò) (lives:List Lif) (id d:Int):Int:=match b.2.1.findIdx? (fun g=>g.1==id) with
 |some k=>match b.2.1[k]?,lives[k]? with
  |some g,some x=>Oh x g.2.1 d
  |_,_=>0
 |none=>0
def ahD {b:ò} (h:Ő b) {k:Nat} {g:ï} (hg:b.2.1[k]?=some g):b.2.1.findIdx? (fun y=>y.1==g.1)=some k:=by
 obtain⟨hk,rfl⟩:=cI.1 hg;refine dg.2 ⟨hk,by simp,fun j hj e=>?_⟩;have:=dl.1 h.ids j k (by omega) hk hj;simp at e;omega
def ad3 {b:ò} (h:Ő b) {lives:List Lif} {k:Nat} {g:ï} {x:Lif} (hg:b.2.1[k]?=some g) (hx:lives[k]?=some x) (d:Int):zd b lives g.1 d=Oh x g.2.1 d:=by
 unfold zd;rw[ahD h hg];dsimp only;rw[hg,hx]
def Nh {b:ò} (h:Ő b) {g:ï} (hg:g∈b.2.1) {x:Lif} (hx:Q4 b g x):∀a∈x.2,0≤a∧a≤1000000000000:=fun a ha=>by
 obtain⟨k,hk,rfl⟩:=cS.1 ha;have h1:=hx.lost k _ (cF hk);have h2:=h.gaugeR hg;have:=(se h hg (f:=g.2.1+k) (t:=g.2.1+k+1) (by omega)).2;omega
def Z9 {b:ò} (h:Ő b) {g:ï} (hg:g∈b.2.1) {x:Lif} (hx:Q4 b g x) (d:Int):Ì g x d=some (Oh x g.2.1 d):=by
 have h2:=h.gaugeR hg;exact YF (by omega) ⟨by have:=hx.lo; omega,by have:=hx.hi; omega⟩ hx.len (Nh h hg hx) d
def aiB {b:ò} (h:Ő b) {g:ï} (hg:g∈b.2.1) {x:Lif} (hx:Q4 b g x) (d:Int) : -70000000000000-1073741824≤Oh x g.2.1 d∧Oh x g.2.1 d≤1125899906842624+1073741824:=by
 have h2:=h.gaugeR hg;have hb:=Zz (M:=1000000000000) (l:=x.2.take (d-g.2.1).toNat) fun a ha=>Nh h hg hx a (List.mem_of_mem_take ha);have hmin:((x.2.take (d-g.2.1).toNat).length:Int)*1000000000000≤60*1000000000000:=Int.mul_le_mul_of_nonneg_right (by have:=hx.len; rw[List.length_take]; omega) (by omega);have:=hx.lo;have:=hx.hi;unfold Oh;omega
def adY {b:ò} (h:Ő b) {g:ï} (hg:g∈b.2.1) {x:Lif} (hx:Q4 b g x) {d:Int} (hd:g.2.1≤d):Oh x g.2.1 (d+1)≤Oh x g.2.1 d∧Oh x g.2.1 d≤Oh x g.2.1 (d+1)+jF b g d (d+1):=by
 obtain⟨k,rfl⟩:∃k:Nat,d=g.2.1+k:=⟨(d-g.2.1).toNat,by omega⟩;have h0:=sd h hg (f:=g.2.1+k) (t:=g.2.1+k+1) (by have:=h.gaugeR hg; omega)
 have e1:(g.2.1+k-g.2.1).toNat=k:=by omega
 have e2:(g.2.1+k+1-g.2.1).toNat=k+1:=by omega
 unfold Oh;rw[e1,e2]
 cases ha:x.2[k]? with
 |none =>
  have:x.2.length≤k:=List.getElem?_eq_none_iff.1 ha;rw[dS this,dS (by omega)];omega
 |some a =>
  have:=hx.lost k a ha;rw[take_succ ha,List.sum_append];simp;omega
def adZ {b:ò} (h:Ő b) {lives:List Lif} {k:Nat} {g:ï} {x:Lif} (hg:b.2.1[k]?=some g) (hx:lives[k]?=some x) (ho:Q4 b g x):ahi b (zd b lives) 0 g:=by
 have hgm:=cO hg;have e:=fun d=>ad3 h hg hx d
 have e0:Oh x g.2.1 g.2.1=x.1:=by unfold Oh; simp
 have h1:=ho.lo;have h2:=ho.hi
 have key:∀(n:Nat) (d:Int),g.2.1≤d→Oh x g.2.1 (d+n)≤Oh x g.2.1 d∧Oh x g.2.1 d≤Oh x g.2.1 (d+n)+jF b g d (d+n):=by
  intro n d hd
  induction n with
  |zero=>simp only[Int.natCast_zero,gy]; have:=sd h hgm (f:=d) (t:=d) (by have:=h.gaugeR hgm; omega); omega
  |succ n ih =>
   have:=adY h hgm ho (d:=d+n) (by omega);have hl:=Gq h g (f:=d) (t:=d+n) (u:=d+n+1) (by omega) (by omega);rw[eY,←Int.add_assoc];omega
 refine⟨by rw[e,e0]; omega,by rw[e,e0]; omega,fun d f h0 hdf=>?_,fun d f h0 hdf=>?_⟩
 ·obtain⟨n,rfl⟩:∃n:Nat,f=d+n:=⟨(f-d).toNat,by omega⟩;rw[e,e]; exact(key n d h0).1
 ·obtain⟨n,rfl⟩:∃n:Nat,f=d+n:=⟨(f-d).toNat,by omega⟩;rw[e,e]; exact(key n d h0).2
end
def pU (p:Int→Int) (l:List Int):Int:=l.foldr (fun a s=>p a+s) 0
def acM {p:Int→Int} {l m:List Int} (h:l.Perm m):pU p l=pU p m:=by
 induction h with
 |nil=>rfl
 |cons a h ih=>simp only[pU,fO] at ih ⊢; omega
 |swap a b l=>simp only[pU,fO]; omega
 |trans _ _ h1 h2=>omega
def Uh (p:Int→Int) (l:List Int) (a:Int):pU p (l++[a])=pU p l+p a:=by
 induction l with
 |nil=>simp[pU]
 |cons b l ih=>simp only[pU,eZ,fO] at ih ⊢; omega
def abd (p:Int→Int) (q:Int→Bool) (l:List Int):pU p l=pU p (l.filter q)+pU p (l.filter fun x=>!q x):=by
 induction l with
 |nil=>rfl
 |cons a l ih =>
  cases h:q a with
  |true=>rw[f8 h,f7 (by simp[h])]; simp only[pU,fO] at ih ⊢; omega
  |false=>rw[f7 (by simp[h]),f8 (by simp[h])]; simp only[pU,fO] at ih ⊢; omega
def Ui (p:Int→Int) (A B:List Int):pU p A=pU p (A.filter fun x=>B.contains x)+pU p (ù A B):=by
 rw[abd p (fun x=>B.contains x) A];rfl
def KX (p:Int→Int) {A B:List Int} (hA:A.Nodup) (hB:B.Nodup):pU p A-pU p B=pU p (ù A B)-pU p (ù B A):=by
 have h1:=Ui p A B;have h2:=Ui p B A
 have h3:(A.filter fun x=>B.contains x).Perm (B.filter fun x=>A.contains x):=by
  refine(List.perm_ext_iff_of_nodup (hA.filter _) (hB.filter _)).2 fun x=>?_;simp only[dH,eV];exact⟨fun h=>⟨h.2,h.1⟩,fun h=>⟨h.2,h.1⟩⟩
 have:=acM (p:=p) h3;omega
def Dl {p:Int→Int} {L M:Int} (hL:L≤0) (hM:0≤M):∀{l:List Int},l.length≤6→(∀x∈l,L≤p x∧p x≤M)→l.length*L≤pU p l∧pU p l≤l.length*M
 |[],_,_=>by simp[pU]
 |a::t,h6,h=>by
  have h1:=Dl hL hM (l:=t) (by simp at h6; omega) fun b hb=>h b (di a hb);have h2:=h a (by simp);simp only[pU,fO,cW] at h1 ⊢
  have e1:((t.length+1:Nat):Int)*M=t.length*M+M:=by rw[eY,fu]; omega
  have e2:((t.length+1:Nat):Int)*L=t.length*L+L:=by rw[eY,fu]; omega
  omega
def Xa (g:ï):Prop:=g.2.2.1≤1099511627776∧g.2.2.2.2.1.2≤10∧Int.tmod 2520 g.2.2.2.2.1.2=0
instance (g:ï):Decidable (Xa g):=by unfold Xa; infer_instance
def qE (b:ò) (id:Int):Int:=match ç b id with|some g=>g.2.2.2.2.1.1*Int.tdiv 2520 g.2.2.2.2.1.2|none=>0
section
variable {ρ:Type} {b:ò} {lives:List Lif}
def aeo (hn:b.2.1.length≤1000000) (id:Int):ķ b id=some (match b.2.1.findIdx? (fun g=>g.1==id) with|some j=>(j:Int)|none=>-1):=by
 unfold ķ nh;refine Eq.trans (j7 b.2.1 (fun g=>g.1==id) (fun z=>some z) (some (-1)) (fun i g hi hg kn=>?_) (fun kn=>?_)) ?_
 ·try dsimp only
  unfold ig;rw[Õ hi,È hg,Î hi (by omega),Ķ]
 ·try dsimp only
  unfold ig;rw[â]
 ·cases b.2.1.findIdx? (fun g=>g.1==id)<;>rfl
def Ti (h:Ő b) (hm:∀g∈b.2.1,Xa g) (hl:yK b lives=true) (x d:Int) : -70000000000000-1073741824≤zd b lives x d∧zd b lives x d≤1099511627776+1073741824:=by
 unfold zd
 cases hx:b.2.1.findIdx? (fun g=>g.1==x) with
 |none=>dsimp only; omega
 |some k =>
  obtain⟨hk,_,_⟩:=List.findIdx?_eq_some_iff_getElem.1 hx;obtain⟨e,hlf⟩:=BA h hl;have hg:b.2.1[k]?=some b.2.1[k]:=List.getElem?_eq_getElem hk;have hxl:lives[k]?=some lives[k]:=List.getElem?_eq_getElem (by omega);have ho:=hlf k _ _ hg hxl;dsimp only;rw[hg,hxl];dsimp only;have hgm:=List.mem_of_getElem? hg;have h1:=aiB h hgm ho d;have h2:=(hm _ hgm).1;have h3:=ho.hi;have h4:=h.gaugeR hgm
  have:Oh lives[k] b.2.1[k].2.1 d≤lives[k].1:=by
   have hb:=Zz (M:=1000000000000) (l:=lives[k].2.take (d-b.2.1[k].2.1).toNat) fun a ha=>Nh h hgm ho a (List.mem_of_mem_take ha);unfold Oh; omega
  omega
def KI (h:Ő b) (x:Int) : -2520000≤qE b x∧qE b x≤2520000:=by
 unfold qE
 cases hx:ç b x with
 |none=>dsimp only; omega
 |some g =>
  have hg:=h.gaugeR (Š hx).1;dsimp only
  have hq : -2520≤Int.tdiv 2520 g.2.2.2.2.1.2∧Int.tdiv 2520 g.2.2.2.2.1.2≤2520:=by have:=gI 2520 g.2.2.2.2.1.2; omega
  have:=m9 hg.2.1 hq;omega
def Ug (h:Ő b) (hm:∀g∈b.2.1,Xa g) (hl:yK b lives=true) {l:List Int} (h6:l.length≤6) (hx:∀x∈l,∃g,ç b x=some g) (d:Int):Ÿ b lives l d=some (pU (fun x=>zd b lives x d) l,pU (qE b) l,true):=by
 have hG:=h.nG;have hb':(((b.1.1,b.1.2),b.2.1,b.2.2.1,b.2.2.2.1,b.2.2.2.2.1,b.2.2.2.2.2):ò)=b:=rfl;unfold Ÿ lf;refine đ (fun v:Int×Int×Int=>∃i:Nat,i≤l.length∧v=(pU (fun x=>zd b lives x d) (l.take i),pU (qE b) (l.take i),(i:Int))) (fun v=>l.length-v.2.2.toNat) ?_ ⟨0,Nat.zero_le _,rfl⟩;rintro v ⟨i,hi,rfl⟩;have b1:=Dl (p:=fun x=>zd b lives x d) (L:=-70000000000000-1073741824) (M:=1099511627776+1073741824) (by omega) (by omega) (l:=l.take i) (by rw[List.length_take]; omega) fun x _=>Ti h hm hl x d;have b2:=Dl (p:=qE b) (L:=-2520000) (M:=2520000) (by omega) (by omega) (l:=l.take i) (by rw[List.length_take]; omega) fun x _=>KI h x;rw[List.length_take] at b1 b2;rcases Nat.lt_or_ge i l.length with hlt|hge
 ·have ha:l[i]?=some l[i]:=cF hlt;refine .inr ⟨(pU (fun x=>zd b lives x d) (l.take (i+1)),pU (qE b) (l.take (i+1)),(i:Int)+1),⟨i+1,hlt,by simp⟩,by simp only[cT]; omega,fun kn=>?_⟩;obtain⟨g,hg⟩:=hx _ (eN hlt);generalize l[i]=x at ha hg
  obtain⟨j,g',e1,e2,e3⟩:∃j g',b.2.1.findIdx? (fun g=>g.1==x)=some j∧b.2.1[j]?=some g'∧ç b x=some g':=by
   rcases abU (b:=b) (id:=x) with⟨j,g',q⟩|⟨_,q⟩
   ·exact⟨j,g',q⟩
   ·rw[q] at hg; cases hg
  obtain⟨e,hlf⟩:=BA h hl;obtain⟨hj,_⟩:=cI.1 e2;have hxl:lives[j]?=some lives[j]:=cF (by omega);have ho:=hlf j _ _ e2 hxl;have hgm:=cO e2;have hgr:=h.gaugeR hgm;have hrat:=(lX _).1 hgr.1
  have hq : -2520≤Int.tdiv 2520 g'.2.2.2.2.1.2∧Int.tdiv 2520 g'.2.2.2.2.1.2≤2520:=by have:=gI 2520 g'.2.2.2.2.1.2; omega
  have hmul:=m9 hgr.2.1 hq
  have hgx:qE b x=g'.2.2.2.2.1.1*Int.tdiv 2520 g'.2.2.2.2.1.2:=by unfold qE; rw[e3]
  have hlx:zd b lives x d=Oh lives[j] g'.2.1 d:=by unfold zd; rw[e1]; dsimp only; rw[e2,hxl]
  have c1:=Ti h hm hl x d;have c2:=KI h x;rw[take_succ ha,Uh,Uh]
  try dsimp only
  unfold Ż;rw[Õ hlt,È ha,hb',aeo (by omega),À,e1];dsimp only;rw[Ò (by simp[ilt]),È e2,È hxl,Z9 h hgm ho,À,←hlx,Ð (by omega) (by omega),È e2,È e2,Ò (by simp[A5]; omega),Ð (by omega) (by omega),←hgx,Ð (by omega) (by omega),Ð (by omega) (by omega),Î hlt (by omega)]
 ·refine .inl fun kn=>?_
  obtain rfl:i=l.length:=by omega
  try dsimp only
  unfold Ż;rw[â,List.take_length]
def iD {c:Bool} {Z:Option Bool} {P:Prop} (h:c=false→∃r,Z=some r∧(r=true→P)):∃r,ifb c (some false) Z=some r∧(r=true→P):=by
 cases c with
 |true=>exact⟨false,rfl,fun e=>by cases e⟩
 |false=>exact h rfl
structure W9 (b:ò) (lives:List Lif) (c:Cmp) (x:Int×Int×Int):Prop where
 heat:c.2.2.2.2.2.2.1≤x.1∧x.1≤c.2.2.2.2.2.2.2
 filmA:((c.2.2.1.length-1:Nat):Int)*b.1.1≤x.2.1∧x.2.1≤((c.2.2.1.length-1:Nat):Int)*b.1.2
 filmB:((c.2.2.2.1.length-1:Nat):Int)*b.1.1≤x.2.2∧x.2.2≤((c.2.2.2.1.length-1:Nat):Int)*b.1.2
 hi:2520*(c.2.2.2.2.1-(pU (fun i=>zd b lives i c.2.1) c.2.2.1+x.2.1-pU (fun i=>zd b lives i c.2.1) c.2.2.2.1-x.2.2))-(pU (qE b) c.2.2.1-pU (qE b) c.2.2.2.1)*x.1≤2520*c.2.2.2.2.2.1
 lo : -(2520*c.2.2.2.2.2.1)≤2520*(c.2.2.2.2.1-(pU (fun i=>zd b lives i c.2.1) c.2.2.1+x.2.1-pU (fun i=>zd b lives i c.2.1) c.2.2.2.1-x.2.2))-(pU (qE b) c.2.2.1-pU (qE b) c.2.2.2.1)*x.1
def abi (h:Ő b) (hm:∀g∈b.2.1,Xa g) (hl:yK b lives=true) {c:Cmp} (hc:c∈b.2.2.2.2.1) (x:Int×Int×Int):∃r,ĩ b lives c x=some r∧(r=true→W9 b lives c x):=by
 have hn:=(jp c).1 (h.nums hc);have hA:=((rr _).1 hn.2.2.2.2.2.1).2.2;have hB:=((rr _).1 hn.2.2.2.2.2.2).2.2
 have hk:∀y∈c.2.2.1++c.2.2.2.1,∃g,ç b y=some g:=fun y hy=>by obtain⟨⟨g,hg,_⟩,_⟩:=h.pile hc hy; exact⟨g,hg⟩
 have hf:=h.film;have hsp:km c.2.2.2.2.2.2 (-10000) 10000=true:=hn.2.2.2.2.1;simp only[km,cH,decide_eq_true_eq] at hsp
 have e:∀n:Nat,PG 0 ((n:Int)-1)=((n-1:Nat):Int):=by
  intro n;unfold PG
  split<;>omega
 have bd:∀(n:Nat) (x:Int),n≤6→0≤x→x≤1000000→0≤((n-1:Nat):Int)*x∧((n-1:Nat):Int)*x≤6000000:=by
  intro n x hn h0 hx;refine⟨gw (by omega) h0,?_⟩;have:=fK (show((n-1:Nat):Int)≤6 by omega) hx h0 (by omega);omega
 have q1:=bd _ b.1.1 hA (by omega) (by omega);have q2:=bd _ b.1.2 hA (by omega) (by omega);have q3:=bd _ b.1.1 hB (by omega) (by omega);have q4:=bd _ b.1.2 hB (by omega) (by omega);have s1:=Dl (p:=fun i=>zd b lives i c.2.1) (L:=-70000000000000-1073741824) (M:=1099511627776+1073741824) (by omega) (by omega) hA fun y _=>Ti h hm hl y c.2.1;have s2:=Dl (p:=fun i=>zd b lives i c.2.1) (L:=-70000000000000-1073741824) (M:=1099511627776+1073741824) (by omega) (by omega) hB fun y _=>Ti h hm hl y c.2.1;have s3:=Dl (p:=qE b) (L:=-2520000) (M:=2520000) (by omega) (by omega) hA fun y _=>KI h y;have s4:=Dl (p:=qE b) (L:=-2520000) (M:=2520000) (by omega) (by omega) hB fun y _=>KI h y;unfold ĩ jR;rw[Ug h hm hl hA (fun y hy=>hk y (List.mem_append_left _ hy)),À,Ug h hm hl hB (fun y hy=>hk y (List.mem_append_right _ hy)),À,Ý,Ý,Ð (by omega) (by omega),Ð (by omega) (by omega),e,e];dsimp only;refine iD fun _=>iD fun _=>iD fun _=>iD fun _=>iD fun _=>iD fun _=>iD fun _=>iD fun _=>iD fun k1=>iD fun k2=>?_;rw[Ð (by omega) (by omega)];refine iD fun k3=>?_;rw[Ð (by omega) (by omega)];refine iD fun k4=>?_;rw[Ð (by omega) (by omega)];refine iD fun k5=>?_;rw[Ð (by omega) (by omega)];refine iD fun k6=>?_;have k1:=of_decide_eq_false k1;have k2:=of_decide_eq_false k2;have k3:=of_decide_eq_false k3;have k4:=of_decide_eq_false k4;have k5:=of_decide_eq_false k5;have k6:=of_decide_eq_false k6;have hR:=m9 (m:=60480000) (a:=pU (qE b) c.2.2.1-pU (qE b) c.2.2.2.1) (n:=10000) (b:=x.1) ⟨by omega,by omega⟩ ⟨by omega,by omega⟩;rw[Ð (by omega) (by omega),Ð (by omega) (by omega),Ð (by omega) (by omega),Ð (by omega) (by omega),Ð (by omega) (by omega),Ð (by omega) (by omega),Ð (by omega) (by omega),Ð (by omega) (by omega),Ð (by omega) (by omega)];rw[Ķ]
 split
 ·rename_i k7;have k7:=of_decide_eq_true k7;rw[Ð (by omega) (by omega),Ð (by omega) (by omega)];refine⟨_,rfl,fun k8=>?_⟩;have k8:=of_decide_eq_true k8;exact⟨⟨by omega,by omega⟩,⟨by omega,by omega⟩,⟨by omega,by omega⟩,by omega,by omega⟩
 ·exact⟨false,rfl,fun e=>by cases e⟩
def afK (hI:In b) (h:Ő b) (hm:∀g∈b.2.1,Xa g) (lives:List Lif) (seen:List (Int×Int×Int)):∃r,Φ b lives seen=some r∧(r=true→yK b lives=true∧∀c∈b.2.2.2.2.1,∃x,W9 b lives c x):=by
 have hb':(((b.1.1,b.1.2),b.2.1,b.2.2.1,b.2.2.2.1,b.2.2.2.2.1,b.2.2.2.2.2):ò)=b:=rfl;have hC:=h.nC;unfold Φ mh;rw[agp hI h,À]
 cases hl:yK b lives with
 |false=>exact⟨false,rfl,fun e=>by cases e⟩
 |true =>
  rw[Ò (by rfl)]
  by_cases hs:seen.length=b.2.2.2.2.1.length
  case neg=>rw[Ü (by simp[ine,Ý]; omega)]; exact⟨false,rfl,fun e=>by cases e⟩
  rw[Ò (by simp[ine,Ý]; omega)]
  -- each comparison's answer
  have hr:∀i:Nat,i<seen.length→∃(c:Cmp) (x:Int×Int×Int) (r:Bool),b.2.2.2.2.1[i]?=some c∧seen[i]?=some x∧ĩ b lives c x=some r∧(r=true→W9 b lives c x):=fun i hi=>by
   have hc:b.2.2.2.2.1[i]?=some b.2.2.2.2.1[i]:=cF (by omega);obtain⟨r,h1,h2⟩:=abi h hm hl (cO hc) seen[i];exact⟨_,_,r,hc,cF hi,h1,h2⟩
  have key:=Bz seen.length (fun i=>match b.2.2.2.2.1[i]?,seen[i]? with|some c,some x=>(ĩ b lives c x).getD false|_,_=>false) (some false) (some true) (f:=fun(v8:Int) kk10=>š lives seen b.1.1 b.1.2 b.2.1 b.2.2.1 b.2.2.2.1 b.2.2.2.2.1 b.2.2.2.2.2 v8 (fun u9=>kk10 u9) (fun z6=>some z6) (fun _=>some true)) (fun i hi kn=>by
   obtain⟨c,x,r,h1,h2,h3,_⟩:=hr i hi;rw[h1,h2];dsimp only;rw[←Ķ,h3];unfold š;rw[Õ hi,È h1,È h2,hb',h3,À,Î hi (by omega)]
   cases r<;>rfl) (fun kn=>by
   try dsimp only
   unfold š
   rw[â])
  rw[key]
  cases hall:(List.range seen.length).all (fun i=>match b.2.2.2.2.1[i]?,seen[i]? with|some c,some x=>(ĩ b lives c x).getD false|_,_=>false) with
  |false=>exact⟨false,rfl,fun e=>by cases e⟩
  |true =>
   refine⟨true,rfl,fun _=>⟨rfl,fun c hc=>?_⟩⟩;obtain⟨i,hi,rfl⟩:=List.mem_iff_getElem.1 hc;have:=List.all_eq_true.1 hall i (List.mem_range.2 (by omega));obtain⟨c,x,r,h1,h2,h3,h4⟩:=hr i (by omega);rw[h1,h2] at this;dsimp only at this;rw[h3] at this;rw[List.getElem?_eq_getElem hi] at h1;cases h1;exact⟨x,h4 this⟩
def Wr (h:Ő b) (hm:∀g∈b.2.1,Xa g) {l:List Int} (h1:l.length≤1) (hx:∀x∈l,∃g,ç b x=some g):pU (qE b) l*(uE (ĕ b) l).2=2520*(uE (ĕ b) l).1:=by
 match l,h1 with
 |[],_=>rfl
 |[x],_ =>
  obtain⟨g,hg⟩:=hx x (by simp);have hgm:=(Š hg).1;have hd:=(hm g hgm).2.2;have hdp:=((lX _).1 (h.gaugeR hgm).1).1
  have e:Int.tdiv 2520 g.2.2.2.2.1.2*g.2.2.2.2.1.2=2520:=by
   have:=Int.mul_tdiv_add_tmod 2520 g.2.2.2.2.1.2;rw[fZ] at this;omega
  simp only[pU,List.foldr_cons,List.foldr_nil,Int.add_zero];unfold uE qE;dsimp only;rw[ov h.ids,hg];dsimp only;rw[Int.mul_assoc,e,Int.mul_comm]
def aab (f:Int→Int→Int) {l:List Int} (h1:l.length≤1) (d:Int):XE f 0 l d=pU (fun x=>f x d) l:=by
 match l,h1 with
 |[],_=>rfl
 |[x],_=>simp[XE,pU]
def acE (h:Ő b) (hm:∀g∈b.2.1,Xa g) (hl:yK b lives=true) {c:Cmp} (hc:c∈b.2.2.2.2.1) {x:Int×Int×Int} (hr:W9 b lives c x) :
 (rl b c).1≤PI (zd b lives) 0 c∧PI (zd b lives) 0 c≤(rl b c).2:=by
 have hn:=(jp c).1 (h.nums hc);have hp:=(Hs h.ids).1 (h.pilesOf hc);have nA:=((rr _).1 hn.2.2.2.2.2.1).2.1.imp fun(h:_<_)=>Int.ne_of_lt h;have nB:=((rr _).1 hn.2.2.2.2.2.2).2.1.imp fun(h:_<_)=>Int.ne_of_lt h
 have hk:∀y∈c.2.2.1++c.2.2.2.1,∃g,ç b y=some g:=fun y hy=>by obtain⟨⟨g,hg,_⟩,_⟩:=h.pile hc hy; exact⟨g,hg⟩
 have hr1:=h.rates hc;have hsp:km c.2.2.2.2.2.2 (-10000) 10000=true:=hn.2.2.2.2.1;simp only[km,cH,decide_eq_true_eq] at hsp;have g1:=Wr h hm hp.2.1 fun y hy=>hk y (dB _ (lO.1 hy).1);have g2:=Wr h hm hp.2.2.1 fun y hy=>hk y (dw _ (lO.1 hy).1);have cl:=KX (fun i=>zd b lives i c.2.1) nA nB;have cg:=KX (qE b) nA nB
 have hD:PI (zd b lives) 0 c=pU (fun i=>zd b lives i c.2.1) c.2.2.1-pU (fun i=>zd b lives i c.2.1) c.2.2.2.1:=by
  unfold PI;rw[aab _ hp.2.1,aab _ hp.2.2.1,cl]
 have hk2:zh (Lc (ĕ b) c) 200000 10000:=Q6 hr1.1 hr1.2;have hkp:0<(Lc (ĕ b) c).2:=hk2.pos
 -- the rate
 have hR:(pU (qE b) c.2.2.1-pU (qE b) c.2.2.2.1)*(Lc (ĕ b) c).2=2520*(Lc (ĕ b) c).1:=by
  have p1:=hr1.1.pos;have p2:=hr1.2.pos;obtain⟨q,q0,_,q1,q2⟩:=xb (n:=(uE (ĕ b) (ù c.2.2.1 c.2.2.2.1)).1*(uE (ĕ b) (ù c.2.2.2.1 c.2.2.1)).2-(uE (ĕ b) (ù c.2.2.2.1 c.2.2.1)).1*(uE (ĕ b) (ù c.2.2.1 c.2.2.2.1)).2) (Int.mul_pos (show 0<(uE (ĕ b) (ù c.2.2.1 c.2.2.2.1)).2 by omega) (show 0<(uE (ĕ b) (ù c.2.2.2.1 c.2.2.1)).2 by omega));rw[show rq _ _=Lc (ĕ b) c from rfl] at q1 q2;refine Int.eq_of_mul_eq_mul_right (show(q:Int)≠0 by omega) ?_;rw[fc,←q2,fc,←q1,cg,Int.sub_mul,Int.mul_sub];generalize uE (ĕ b) (ù c.2.2.1 c.2.2.2.1)=r1 at g1;generalize uE (ĕ b) (ù c.2.2.2.1 c.2.2.1)=r2 at g2;rw[←fc,g1,fZ r1.2 r2.2,←fc,g2,fc,fc]
 obtain⟨t1,t2⟩:=hr.heat;have nar:=XT hkp (h:=c.2.2.2.2.2.2) (h':=(x.1,x.1)) hsp.2.1 (by simp) t1 t2
 have hov:B5 (Lc (ĕ b) c) (x.1,x.1)=(wV (Lc (ĕ b) c) x.1,wV (Lc (ĕ b) c) x.1):=by unfold B5; split<;>rfl
 rw[hov] at nar;have mf:=zG hkp x.1;unfold G3 at nar;dsimp only at nar;rw[mf.1,mf.2] at nar;have f1:=hr.filmA;have f2:=hr.filmB;have e1:=hr.hi;have e2:=hr.lo;have hs:rl b c=(c.2.2.2.2.1-c.2.2.2.2.2.1-(ut b c).2-(nD b c).2.1 / (nD b c).2.2,c.2.2.2.2.1+c.2.2.2.2.2.1-(ut b c).1-G3 (nD b c).1):=rfl;rw[hs,hD];unfold G3 nD ut;dsimp only;generalize pU (fun i=>zd b lives i c.2.1) c.2.2.1=m at *;generalize pU (fun i=>zd b lives i c.2.1) c.2.2.2.1=n at *;generalize pU (qE b) c.2.2.1-pU (qE b) c.2.2.2.1=R at *;generalize Lc (ĕ b) c=K at *
 have hRx:R*x.1*K.2=2520*(K.1*x.1):=by rw[fc,fZ x.1,←fc,hR,fc]
 constructor
 ·have:c.2.2.2.2.1-c.2.2.2.2.2.1-(((c.2.2.1.length-1:Nat):Int)*b.1.2-((c.2.2.2.1.length-1:Nat):Int)*b.1.1)-(m-n)≤K.1*x.1 / K.2:=by
   refine(Int.le_ediv_iff_mul_le hkp).2 ?_
   have h2:2520*(c.2.2.2.2.1-c.2.2.2.2.2.1-(((c.2.2.1.length-1:Nat):Int)*b.1.2-((c.2.2.2.1.length-1:Nat):Int)*b.1.1)-(m-n))≤R*x.1:=by omega
   have h3:=ew h2 (show 0≤K.2 by omega);rw[hRx,fc] at h3;omega
  omega
 ·have : -(c.2.2.2.2.1+c.2.2.2.2.2.1-(((c.2.2.1.length-1:Nat):Int)*b.1.1-((c.2.2.2.1.length-1:Nat):Int)*b.1.2)-(m-n))≤-(K.1*x.1) / K.2:=by
   refine(Int.le_ediv_iff_mul_le hkp).2 ?_
   have h2:R*x.1≤2520*(c.2.2.2.2.1+c.2.2.2.2.2.1-(((c.2.2.1.length-1:Nat):Int)*b.1.1-((c.2.2.2.1.length-1:Nat):Int)*b.1.2)-(m-n)):=by omega
   have h3:=ew h2 (show 0≤K.2 by omega);rw[hRx,fc] at h3;rw[Int.neg_mul];omega
  omega
def acF (h:Ő b) (hm:∀g∈b.2.1,Xa g) (hl:yK b lives=true) (hr:∀c∈b.2.2.2.2.1,∃x,W9 b lives c x):Xp b (zd b lives) 0:=by
 obtain⟨e,hlf⟩:=BA h hl;refine⟨fun g hg=>?_,fun c hc=>?_⟩
 ·obtain⟨k,hk,rfl⟩:=cS.1 hg;have hg':b.2.1[k]?=some b.2.1[k]:=cF hk;have hx:lives[k]?=some lives[k]:=cF (by omega);exact adZ h hg' hx (hlf k _ _ hg' hx)
 ·obtain⟨x,hx⟩:=hr c hc;exact acE h hm hl hc hx
end
def QA (a:Int):∀{l:List Int} {k:Nat},l.Pairwise (·≤·)→k≤l.length→(∀j x,j<k→l[j]?=some x→x<a)→(∀x,l[k]?=some x→a≤x)→abQ a l=l.take k++[a]++l.drop k
 |[],k,_,hk,_,_=>by simp[abQ]
 |b::t,0,_,_,_,h2=>by
  have:=h2 b rfl;unfold abQ;rw[if_pos this]; rfl
 |b::t,k+1,hs,hk,h1,h2=>by
  have hb:=h1 0 b (by omega) rfl;unfold abQ;rw[if_neg (by omega),QA a (List.pairwise_cons.1 hs).2 (by simpa using hk) (fun j x hj hx=>h1 (j+1) x (by omega) hx) (fun x hx=>h2 x hx)];rfl
section
variable {m:Ū} {w:Way} {ρ:Type}
def KW (m:Ū) (g:ï):Bool:=(jM m).all fun w=>decide (Ň m.2 w g.1 20000=g.1)
def Xz (m:Ū):List Int:=(m.1.2.1.filter (KW m)).map fun g=>g.1
def afu (m:Ū):List Int×Int:=if ζ m≠0 then([],ζ m) else if jM m=[] then([],5) else(Xz m,0)
def acL {l:List ï} {i:Nat} {g:ï} (hg:l[i]?=some g) (p:ï→Bool):((l.take (i+1)).filter p).map (fun g=>g.1)=((l.take i).filter p).map (fun g=>g.1)++if p g then[g.1] else[]:=by
 rw[take_succ hg,eM,eJ]
 cases h:p g<;>simp[h]
def aft (hs:In m.1) (hn:m.2.length≤1000):jL m=some (afu m):=by
 unfold jL RS afu;rw[oZ hs hn,À]
 by_cases hc:ζ m=0
 case neg=>rw[Ü (by simp[ine,hc]),if_pos hc]
 have h:=(Ι m).1 hc;have hm:((((m.1.1.1,m.1.1.2),m.1.2.1,m.1.2.2.1,m.1.2.2.2.1,m.1.2.2.2.2.1,m.1.2.2.2.2.2),m.2):Ū)=m:=rfl;have hG:=hs.size.gauges;have hgl:=aao h;rw[Ò (by simp[ine,hc]),if_neg (by simp[hc]),aeg h,À]
 by_cases hg:jM m=[]
 ·rw[if_pos hg,hg,Ý]; rfl
 ·have:(jM m).length≠0:=fun e=>hg (cV.1 e);rw[if_neg hg,Ò (by simp[ieq,Ý,hg])];refine ĵ m.1.2.1 (fun i=>((m.1.2.1.take i).filter (KW m)).map fun g=>g.1) _ rfl (fun i g hi hgi kn=>?_) (fun kn=>?_)
  ·have hle:(((m.1.2.1.take i).filter (KW m)).map fun g=>g.1).length≤1000:=by
    rw[dz];exact cY (dV _ _) (by rw[cZ]; omega)
   try dsimp only
   unfold xD;rw[Õ hi,È hgi,acL hgi]
   refine eW (ks (jM m) (fun w=>!decide (Ň m.2 w g.1 20000=g.1)) (fun z=>ifb (!(ige z (0:Int))) (è (ñ ((((m.1.2.1.take i).filter (KW m)).map fun g=>g.1).length+([g.1]:List Int).length)) (ck ((i:Int)+1) fun n8=>kn (n8,(((m.1.2.1.take i).filter (KW m)).map fun g=>g.1)++[g.1]))) (ck ((i:Int)+1) fun n9=>kn (n9,((m.1.2.1.take i).filter (KW m)).map fun g=>g.1)))
    (kn ((i:Int)+1,((m.1.2.1.take i).filter (KW m)).map fun g=>g.1)) (kn ((i:Int)+1,(((m.1.2.1.take i).filter (KW m)).map fun g=>g.1)++[g.1])) (fun j=>?_) (fun j w hj hw kn'=>?_) (fun kn'=>?_)) ?_
   ·rw[Ò (by simp[ige]),Î hi (by omega)]
   ·try dsimp only
    unfold xC;rw[Õ hj,È hw,hm,h.who (Tt (List.mem_of_getElem? hw)).1,À,Î hj (by omega),Ķ]
    by_cases e:Ň m.2 w g.1 20000=g.1<;>simp[ine,e]
   ·try dsimp only
    unfold xC;rw[â];rw[ÿ (Ú (by simp only[List.length_singleton]; omega)),Î hi (by omega)]
   ·have:((jM m).any fun w=>!decide (Ň m.2 w g.1 20000=g.1))=!KW m g:=by unfold KW; rw[List.all_eq_not_any_not]; simp
    rw[this]
    cases KW m g<;>simp
  ·try dsimp only
   unfold xD;rw[Ý];rw[show ilt ((m.1.2.1.length:Nat):Int) (m.1.2.1.length:Int)=false by simp[ilt],ë,List.take_length];rfl
end
section
variable {ρ:Type}
def acV {ms:List Mx} {w:Way} (hn:ms.length≤1000):∃r,Ź ms w=some r∧(r=true→∀l∈w,∃y∈ms,l.length=y.2.length):=by
 unfold Ź lg
 by_cases hl:w.length=ms.length
 ·have key:=Bz ms.length (fun i=>match w[i]?,ms[i]? with|some l,some y=>decide (l.length=y.2.length)|_,_=>false) (some false) (some true) (f:=fun(v6:Int) kk8=>Ĭ ms w v6 (fun u7=>kk8 u7) (fun z4=>some z4) (fun _=>some (ieq (à w) (à ms)))) (fun i hi kn=>by
   have hy:ms[i]?=some ms[i]:=cF hi;have hw:w[i]?=some w[i]:=cF (by omega)
   try dsimp only
   unfold Ĭ;rw[Õ hi,Ü (by simp[ieq,Ý,hl]),È hw,È hy,hw,hy,Î hi (by omega),Ý,Ý];dsimp only
   by_cases e:w[i].length=ms[i].2.length
   ·rw[Ò (by simp[ine,e]),if_pos (decide_eq_true e)]
   ·rw[Ü (by simp[ine]; omega),if_neg (by simpa using e)]) (fun kn=>by
   try dsimp only
   unfold Ĭ
   rw[â,show ieq (à w) (à ms)=true by simp[ieq,Ý,hl]])
  rw[key]
  cases hall:(List.range ms.length).all (fun i=>match w[i]?,ms[i]? with|some l,some y=>decide (l.length=y.2.length)|_,_=>false) with
  |false=>exact⟨false,rfl,fun e=>by cases e⟩
  |true =>
   refine⟨true,rfl,fun _ l hlw=>?_⟩;obtain⟨i,hi,rfl⟩:=cS.1 hlw;have:=dj.1 hall i (gn.2 (by omega))
   have hi2:i<ms.length:=by omega
   rw[cF hi,cF hi2] at this;exact⟨_,eN hi2,of_decide_eq_true this⟩
 ·refine⟨false,đ (fun _:Int=>True) (fun _=>0) (fun v _=>.inl fun kn=>?_) trivial,fun e=>by cases e⟩
  try dsimp only
  unfold Ĭ;rw[Ò (show ieq (à w) (à ms)=false by simp[ieq,Ý]; omega)];rw[show ieq (à w) (à ms)=false by simp[ieq,Ý]; omega];generalize ilt v (à ms)=B
  cases B<;>rfl
def G7 {ms:List Mx} {w:Way} (h:Į ms w) (hn:ms.length≤1000) (hl:∀x∈ms,x.2.length≤1000) (x d:Int):õ ms w x d=some (Ň ms w x d):=by
 unfold õ ln;rw[Ý,Ð (by omega) (by omega)];refine đ (fun s:Int×Int=>∃i:Nat,i≤ms.length∧s.2=(i:Int)-1∧s.1=Ň (ms.drop i) (w.drop i) x d) (fun s=>(s.2+1).toNat) ?_ ⟨ms.length,Nat.le_refl _,rfl,?_⟩
 ·rintro⟨s1,s2⟩ ⟨i,hi,h1,h2⟩;simp only at h1 h2;subst h1 h2
  cases i with
  |zero =>
   refine .inl fun kn=>?_
   try dsimp only
   unfold ż;rw[Ò (by simp[ige])]; rfl
  |succ i =>
   obtain⟨y,hy⟩:∃y,ms[i]?=some y:=⟨_,cF hi⟩;obtain⟨l,hw,hp⟩:=h.at hy;have hyl:=hl y (cO hy)
   have hll:l.length≤1000:=by rw[hp.length_eq]; exact hyl
   have e0:((i+1:Nat):Int)-1=i:=by omega
   refine .inr ⟨(Ň (ms.drop i) (w.drop i) x d,(i:Int)-1),⟨i,by omega,rfl,rfl⟩,by simp only[e0]; omega,fun kn=>?_⟩
   try dsimp only
   unfold ż;rw[e0,Ü (by simp[ige]),È hy,Zr hy hw];unfold stp
   by_cases hd:y.1<d
   ·have hk0:(fun z10:Int=>ck ((i:Int)-1) fun n11=>(fun u18 u19=>kn (u18,u19)) z10 n11)=fun z10=>kn (z10,(i:Int)-1):=by funext z; rw[Ð (by omega) (by omega)]
    rw[Ò (by simp[ige]; omega),if_pos hd,hk0];generalize Ň (ms.drop (i+1)) (w.drop (i+1)) x d=q;refine đ (fun v:Int×Int=>v.1=q∧∃k:Nat,v.2=k∧k≤l.length∧∀a∈l.take k,a≠q) (fun v=>l.length-v.2.toNat) ?_ ⟨rfl,0,rfl,Nat.zero_le _,by simp⟩;rintro⟨v1,v2⟩ ⟨e1,k,e2,hk,hno⟩;dsimp only at e1 e2;subst e1 e2;rcases Nat.lt_or_ge k l.length with hlt|hge
    ·have ha:l[k]?=some l[k]:=cF hlt
     have hky:k<y.2.length:=by rw[←hp.length_eq]; exact hlt
     have hya:y.2[k]?=some y.2[k]:=cF hky
     by_cases e:l[k]=v1
     ·refine .inl fun kn'=>?_;have hf:l.findIdx? (·==v1)=some k:=dg.2 ⟨hlt,by simp[e],fun j hj e'=>hno l[j] (List.mem_take_iff_getElem.2 ⟨j,by omega,rfl⟩) (by simpa using e')⟩
      try dsimp only
      unfold ŕ;rw[È hw,Õ hlt,È hw,È ha,Ü (by simp[ieq,e]),È hy,È hya,hf];dsimp only;rw[List.getD_eq_getElem?_getD,hya]; rfl
     ·refine .inr ⟨(v1,(k:Int)+1),⟨rfl,k+1,by simp,hlt,fun a ha'=>?_⟩,by simp only[cT]; omega,fun kn'=>?_⟩
      ·rw[take_succ ha] at ha';rcases cM.1 ha' with h1|h1
       ·exact hno a h1
       ·rw[cP.1 h1]; exact e
      ·try dsimp only
       unfold ŕ;rw[È hw,Õ hlt,È hw,È ha,Ò (by simp[ieq,e]),Î hlt (by omega)]
    ·refine .inl fun kn'=>?_
     obtain rfl:k=l.length:=by omega
     rw[fJ] at hno
     have hf:l.findIdx? (·==v1)=none:=dE.2 fun a ha=>by simpa using hno a ha
     try dsimp only
     unfold ŕ;rw[È hw,â,hf]
   ·rw[Ü (by simp[ige]; omega),Ð (by omega) (by omega),if_neg hd]
 ·simp only[List.drop_length];rw[←h.len,List.drop_length];unfold Ň;rfl
def aaR {m:Ū} {w:Way} (h:Į m.2 w) (hn:m.2.length≤1000) (hl:∀x∈m.2,x.2.length≤1000) (d:Int) {l:List Int} (hll:l.length≤1000000):Χ m w l d=some (nV m w d l):=by
 unfold Χ ml;refine ĵ l (fun i=>lR ((l.take i).map fun x=>Ň m.2 w x d)) _ rfl (fun i a hi ha kn=>?_) (fun kn=>?_)
 ·try dsimp only
  unfold ι;rw[Õ hi,È ha,G7 h hn hl,À];generalize hV:lR ((l.take i).map fun x=>Ň m.2 w x d)=V
  have hVs:V.Pairwise (·≤·):=by rw[←hV]; exact ip _
  have hVl:V.length=i:=by rw[←hV,(ľ _).length_eq,dz,cZ]; omega
  have hnext:lR ((l.take (i+1)).map fun x=>Ň m.2 w x d)=abQ (Ň m.2 w a d) V:=by
   rw[←hV];refine gN (le:=(·≤·)) (fun a b _ _ h1 h2=>Int.le_antisymm h1 h2) (ip _) (Ed _ (ip _)) ?_;rw[take_succ ha,eJ,ej,fk];exact(ľ _).trans (List.perm_append_comm.trans ((List.Perm.cons _ (ľ _).symm).trans (Gv _ _).symm))
  rw[hnext];generalize Ň m.2 w a d=g;refine đ (fun s:Int=>∃k:Nat,k≤V.length∧s=(k:Int)∧∀j x,j<k→V[j]?=some x→x<g) (fun s=>V.length-s.toNat) ?_ ⟨0,dR _,rfl,fun j x hj _=>by omega⟩;rintro s ⟨k,hk,rfl,hp⟩
  have fin:∀(hq:∀x,V[k]?=some x→g≤x),(fun z5:Int=>è ((ile (0:Int) z5)&&(ile z5 (ú V))) (è (ñ (0+(List.length (List.take (Int.toNat z5) (List.drop 0 V))))) (è (ñ ((List.length (([])++(List.take (Int.toNat z5) (List.drop 0 V))))+(List.length ([g])))) (è ((ile (0:Int) z5)&&(ile z5 (ú V))) (è (ñ ((List.length ((([])++(List.take (Int.toNat z5) (List.drop 0 V)))++([g])))+(List.length (List.take (List.length V-(Int.toNat z5)) (List.drop (Int.toNat z5) V))))) (ck ((i:Int)+(1:Int)) fun n6=>kn (n6,((([])++(List.take (Int.toNat z5) (List.drop 0 V)))++([g]))++(List.take (List.length V-(Int.toNat z5)) (List.drop (Int.toNat z5) V)))))))) ) (k:Int)=kn ((i:Int)+1,abQ g V):=fun hq=>by
   dsimp only
   rw[QA g hVs hk hp hq,cT,dL,ÿ (by simp[ile,ú]; omega),ÿ (Ú (by simp; omega)),ÿ (Ú (by simp; omega)),ÿ (by simp[ile,ú]; omega),ÿ (Ú (by simp; omega)),Î hi (by omega),
    dS (l:=V.drop k) (by simp),gO]
  rcases df k V.length with hkl|hkg
  ·have hx:V[k]?=some V[k]:=cF hkl
   by_cases hlt:V[k]<g
   ·refine .inr ⟨(k:Int)+1,⟨k+1,hkl,by simp,fun j x hj hjx=>?_⟩,by omega,fun kn'=>?_⟩
    ·rcases df j k with h1|h1
     ·exact hp j x h1 hjx
     ·have:j=k:=by omega
      subst this;rw[hx] at hjx; cases hjx;exact hlt
    ·try dsimp only
     unfold Ţ;rw[Õ hkl,ÿ (by simp[ile,ilt,ú]; omega),Int.toNat_natCast,i9 hx,Ü (decide_eq_true hlt),Ð (by omega) (by omega)]
   ·refine .inl fun kn'=>?_
    try dsimp only
    unfold Ţ;rw[Õ hkl,ÿ (by simp[ile,ilt,ú]; omega),Int.toNat_natCast,i9 hx,Ò (decide_eq_false hlt)]
    exact fin fun x hx'=>by rw[hx] at hx'; cases hx'; omega
  ·refine .inl fun kn'=>?_
   have:k=V.length:=by omega
   subst this
   try dsimp only
   unfold Ţ;rw[â]
   exact fin fun x hx'=>by simp at hx'
 ·try dsimp only
  unfold ι;rw[â,List.take_length]; rfl
def JF (m:Ū) (w:Way):ò:=((trP m w).1,(trP m w).2.1,(trP m w).2.2.1,(trP m w).2.2.2.1,(trP m w).2.2.2.2.1,[])
section
variable {m:Ū} {w:Way}
def unm_L0 (h:MOk m) (hw:Į m.2 w) {ρ:Type} (k0:List (Int×Int)→Option ρ):Í (fun(v:Int×List (Int×Int)) kk=>ų w m.1.2.2.1 m.2 v.1 v.2 (fun a b=>kk (a,b)) k0) ((0:Int),[])=k0 (m.1.2.2.1.map fun u=>(Ň m.2 w u.1 u.2,u.2)):=by
 have hn:m.2.length≤1000:=by have:=h.n4; omega
 have hl:∀x∈m.2,x.2.length≤1000:=fun y hy=>by have:=h.len5 y hy; omega
 have h1:=h.good.nU
 refine qC m.1.2.2.1 (fun u:Int×Int=>((Ň m.2 w u.1 u.2,u.2):Int×Int)) k0 (fun i a hi ha v kn hv=>?_) (fun v kn=>?_)<;>(try dsimp only)<;>unfold ų
 ·rw[Õ hi,È ha,G7 hw hn hl,À,ÿ (Ú (by simp; omega)),Î hi (by omega)]
 ·rw[â]
def unm_L1 (h:MOk m) (hw:Į m.2 w) {ρ:Type} (k0:List IX→Option ρ):Í (fun(v:Int×List IX) kk=>Ų w m.1.2.2.2.1 m.2 v.1 v.2 (fun a b=>kk (a,b)) k0) ((0:Int),[])=k0 (m.1.2.2.2.1.map fun l=>(Ň m.2 w l.1 l.2.1.1,l.2)):=by
 have hn:m.2.length≤1000:=by have:=h.n4; omega
 have hl:∀x∈m.2,x.2.length≤1000:=fun y hy=>by have:=h.len5 y hy; omega
 have h1:=h.good.nL
 refine qC m.1.2.2.2.1 (fun l:IX=>((Ň m.2 w l.1 l.2.1.1,l.2):IX)) k0 (fun i a hi ha v kn hv=>?_) (fun v kn=>?_)<;>(try dsimp only)<;>unfold Ų
 ·rw[Õ hi,È ha,G7 hw hn hl,À,ÿ (Ú (by simp; omega)),Î hi (by omega)]
 ·rw[â]
def unm_L2 (h:MOk m) (hw:Į m.2 w) {ρ:Type} (k0:List Cmp→Option ρ):Í (fun(v:Int×List Cmp) kk=>ű w m.1.1.1 m.1.1.2 m.1.2.1 m.1.2.2.1 m.1.2.2.2.1 m.1.2.2.2.2.1 m.1.2.2.2.2.2 m.2 v.1 v.2 (fun a b=>kk (a,b)) k0) ((0:Int),[])=k0 (m.1.2.2.2.2.1.map (Xo m w)):=by
 have hn:m.2.length≤1000:=by have:=h.n4; omega
 have hl:∀x∈m.2,x.2.length≤1000:=fun y hy=>by have:=h.len5 y hy; omega
 have hm:((((m.1.1.1,m.1.1.2),m.1.2.1,m.1.2.2.1,m.1.2.2.2.1,m.1.2.2.2.2.1,m.1.2.2.2.2.2),m.2):Ū)=m:=rfl;have h1:=h.good.nC
 refine qC m.1.2.2.2.2.1 (Xo m w) k0 (fun i a hi ha v kn hv=>?_) (fun v kn=>?_)<;>(try dsimp only)<;>unfold ű
 ·obtain⟨p1,p2⟩:=h.good.size.piles a (cO ha);rw[Õ hi,È ha,hm,aaR hw hn hl _ (by omega),À,aaR hw hn hl _ (by omega),À,ÿ (Ú (by simp; omega)),Î hi (by omega)];rfl
 ·rw[â]
def aa8 (h:MOk m) (hw:Į m.2 w):ŭ m w=some (JF m w):=by
 unfold ŭ jP;rw[unm_L0 h hw,unm_L1 h hw,unm_L2 h hw];rfl
end
def adz {b:ò} (hI:In b):∃r,ź b=some r∧(r=true→Ő b∧∀g∈b.2.1,Xa g):=by
 have hG:=hI.size.gauges;unfold ź lh;refine iD fun _=>iD fun _=>?_;rw[qO hI.size hI.num,À]
 by_cases hc:ě b=0
 case neg=>rw[Ü (by simp[ine,hc])]; exact⟨false,rfl,fun e=>by cases e⟩
 have h:=(ė b).1 hc;rw[Ò (by simp[ine,hc])]
 have key:=Bz b.2.1.length (fun i=>match b.2.1[i]? with|some g=>decide (Xa g)|none=>false) (some false) (some true) (f:=fun(v6:Int) kk8=>Ŕ b.2.1 v6 (fun u7=>kk8 u7) (fun z4=>some z4) (fun _=>some true)) (fun i hi kn=>by
  have hg:b.2.1[i]?=some b.2.1[i]:=List.getElem?_eq_getElem hi;have hd:=((lX _).1 (h.gaugeR (List.mem_of_getElem? hg)).1).1;rw[hg];show _=(if decide (Xa b.2.1[i])=true then kn ((i:Int)+1) else some false);generalize b.2.1[i]=g at hg hd;unfold Ŕ;rw[Õ hi,È hg,Î hi (by omega)]
  by_cases h1:g.2.2.1≤1099511627776
  case neg=>rw[Ü (decide_eq_true (by omega)),if_neg (by simp[Xa,h1])]
  rw[Ò (decide_eq_false (by omega))]
  by_cases h2:g.2.2.2.2.1.2≤10
  case neg=>rw[Ü (decide_eq_true (by omega)),if_neg (by simp[Xa,h2])]
  rw[Ò (decide_eq_false (by omega)),Ò (by simp[A5]; omega)]
  by_cases h3:Int.tmod 2520 g.2.2.2.2.1.2=0
  ·rw[Ò (by simp[ine,h3]),if_pos (decide_eq_true ⟨h1,h2,h3⟩)]
  ·rw[Ü (by simp[ine,h3]),if_neg (by simp[Xa,h3])]) (fun kn=>by
  unfold Ŕ
  rw[â])
 rw[key]
 cases hall:(List.range b.2.1.length).all (fun i=>match b.2.1[i]? with|some g=>decide (Xa g)|none=>false) with
 |false=>exact⟨false,rfl,fun e=>by cases e⟩
 |true =>
  refine⟨true,rfl,fun _=>⟨h,fun g hg=>?_⟩⟩;obtain⟨i,hi,rfl⟩:=cS.1 hg;have:=dj.1 hall i (gn.2 hi);rw[cF hi] at this;exact of_decide_eq_true this
end
end Go.Proofs.ZzM
end
