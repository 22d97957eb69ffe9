/- lemmas -/
import Derived.Test.YtdmegkgjpgcfgaaGreatPlA
import Derived.Test.YtdmegkgjpgcfgaaGreatMdTA
set_option linter.all false
set_option linter.unusedSectionVars false
set_option linter.unusedVariables false
set_option linter.unusedSimpArgs false
noncomputable section
namespace Go.Proofs.ZzM
open Go Go.Am
section
variable {ρ:Type}
def OB {α σ:Type} (l:List α) (g:Nat→σ) (r:Option ρ) {f:σ×Int→(σ×Int→Option ρ)→Option ρ} {s0:σ} (P:Nat→Prop) (h0:g 0=s0) (hP:P 0)
 (h:∀(i:Nat) (a:α),i<l.length→l[i]?=some a→P i→∀kn,f (g i,i) kn=r∨(P (i+1)∧f (g i,i) kn=kn (g (i+1),(i:Int)+1)))
 (hn:P l.length→∀kn,f (g l.length,l.length) kn=r):Ê f (s0,0)=r:=by
 subst h0;refine tv (F:=fun _=>r) (fun x=>∃i:Nat,i≤l.length∧x=(g i,(i:Int))∧P i) (fun x=>l.length-x.2.toNat) (fun x hx kn hk=>?_) ⟨0,dQ _,rfl,hP⟩;obtain⟨i,hi,rfl,hp⟩:=hx;rcases cZ i l.length with hlt|hge
 ·rcases h i _ hlt (cE hlt) hp kn with h1|⟨h1,h2⟩
  ·exact h1
  ·rw[h2,hk _ ⟨i+1,hlt,by simp,h1⟩ (by simp; omega)]
 ·have:i=l.length:=by omega
  subst this;exact hn hp kn
def Yl {l:List Int} {f:Int→(Int→Option ρ)→Option ρ} {K k1:Option ρ} (h:∀(i:Nat) (a b:Int),l[i]?=some a→l[i+1]?=some b→∀kn,f ((i:Int)+1) kn=if b≤a then K else kn ((i:Int)+1+1))
 (hn:∀n:Nat,l.length≤n→∀kn,f n kn=k1):Ê f 1=if l.Pairwise (·<·) then k1 else K:=by
 have hb:=Iu (fun x:Int=>x) l;refine ĕ (fun x=>∃i:Nat,x=(i:Int)+1∧∀j a,j≤i→l[j]?=some a→tR (fun x=>x) l j a=false) (fun x=>l.length-x.toNat) ?_ ⟨0,rfl,fun j a hj _=>?_⟩
 ·rintro x ⟨i,rfl,hi⟩;rcases cZ (i+1) l.length with hlt|hge
  ·have ha:l[i]?=some l[i]:=cE (by omega);have hc:l[i+1]?=some l[i+1]:=cE hlt
   by_cases hle:l[i+1]≤l[i]
   ·refine .inl fun kn=>?_;rw[h i _ _ ha hc,if_pos hle,if_neg];intro hp;have:=hb.2 hp (i+1) _ hc;simp[tR,ha,hle] at this
   ·refine .inr ⟨(i:Int)+1+1,⟨i+1,by simp,fun j a hj hja=>?_⟩,by omega,fun kn=>by rw[h i _ _ ha hc,if_neg hle]⟩;rcases cZ i j with h1|h1
    ·have:j=i+1:=by omega
     subst this;rw[hc] at hja; cases hja;simp[tR,ha]; omega
    ·exact hi j a h1 hja
  ·refine .inl fun kn=>?_;have:=hn (i+1) hge kn;simp only[Int.natCast_add,Int.cast_ofNat_Int] at this;rw[this,if_pos];refine hb.1 fun j a hj=>hi j a ?_ hj;have:=(cH.1 hj).1;omega
 ·have:j=0:=by omega
  subst this; simp[tR]
end
def mixE (b:ę) (l:List Mx) (i:Nat) (x:Mx):Int :=
 if !(inP x.1 0 19999&&inP x.2.length 2 5) then 1 else
 if ¬x.2.Pairwise (·<·) then 1 else
 if x.2.any (fun g=>(ċ b g).isNone) then 5 else
 if x.2.any (fun g=>Gm b g x.1 != 0) then 4 else
 if tR (fun y=>y.1) l i x then 6 else
 if x.2.any (fun g=>(lG b g x.1).isSome||(lG b g (x.1+1)).isSome) then 9 else 0
def W0:Nat→Nat
 |0=>1
 |n+1=>W0 n*(n+1)
def zc:List Mx→Nat
 |[]=>1
 |x::r=>W0 x.2.length*zc r
def NW:∀{l:List Mx} {i:Nat} {x:Mx},l[i]?=some x→zc (l.take (i+1))=zc (l.take i)*W0 x.2.length
 |[],_,_,h=>by simp at h
 |y::l,0,x,h=>by simp at h; subst h; simp[zc]
 |y::l,i+1,x,h=>by
  simp only[fw] at h;simp only[gn,zc,NW h,Nat.mul_assoc]
def acI:∀{n:Nat},n≤5→W0 n≤120
 |0,_|1,_|2,_|3,_|4,_|5,_=>by decide
 |n+6,h=>by omega
def XY:∀{l:List Mx} {n:Nat},l.length≤n→(∀x∈l,x.2.length≤5)→zc l≤120 ^ n
 |[],n,_,_=>Nat.one_le_pow _ _ (by decide)
 |x::l,0,h,_=>by simp at h
 |x::l,n+1,h,hl=>by
  have h1:=XY (l:=l) (n:=n) (by simpa using h) fun y hy=>hl y (dk _ hy);have h2:=acI (hl x (by simp));rw[zc,gR,Nat.mul_comm];exact fP h1 h2
def Og (b:ę) (l:List Mx):Option Int:=Ň (fun i x=>Z6 (mixE b l i x)) 0 l
def ė (m:ń):Int :=
 if Ř m.1≠0 then Ř m.1 else if 4<m.2.length then 2 else match Og m.1 m.2 with
 |some e=>e
 |none=>if 150<zc m.2 then 2 else 0
def Jc (l:List Ā):List (Int×Int):=l.foldl (fun m g=>Oe (k:=tI) (v:=tI) g.1 g.2.1 m) []
def Oh (x y n:Int):∀m:List (Int×Int),qm (k:=tI) (v:=tI) x (Oe (k:=tI) (v:=tI) y n m)=if x=y then some n else qm (k:=tI) (v:=tI) x m
 |[]=>by
  unfold Oe qm jf qm
  by_cases h:x=y<;>simp[h]
 |e::m=>by
  unfold Oe
  by_cases h:y=e.1
  ·have:jf tI y e.1=true:=by simp[jf,h]
   rw[this];simp only;unfold qm
   by_cases hx:x=y
   ·subst hx; simp[jf]
   ·have:jf tI x y=false:=by simp[jf,hx]
    have h2:jf tI x e.1=false:=by simp[jf,←h,hx]
    rw[this,if_neg hx];simp only[h2]
  ·have:jf tI y e.1=false:=by simp[jf,h]
   rw[this];simp only;unfold qm
   by_cases hx:x=e.1
   ·subst hx;rw[if_neg (fun e=>h e.symm)];simp[jf]
   ·have h2:jf tI x e.1=false:=by simp[jf,hx]
    rw[h2];exact Oh x y n m
def ZJ (x:Int) (l:List Ā):qm (k:=tI) (v:=tI) x (Jc l)=(l.reverse.find? fun g=>g.1==x).map fun g=>g.2.1:=by
 have key:∀r:List Ā,qm (k:=tI) (v:=tI) x (Jc r.reverse)=(r.find? fun g=>g.1==x).map fun g=>g.2.1:=by
  intro r
  induction r with
  |nil=>rfl
  |cons g r ih =>
   rw[List.reverse_cons,Jc,List.foldl_append];simp only[fZ,List.foldl_nil];rw[Oh,fJ]
   by_cases h:x=g.1
   ·subst h; simp
   ·have:(g.1==x)=false:=by simp; exact fun e=>h e.symm
    rw[if_neg h,this];exact ih
 have:=key l.reverse
 rwa [List.reverse_reverse] at this
def abR {b:ę} (h:b.2.1.Pairwise fun a b=>a.1<b.1) (x:Int):qm (k:=tI) (v:=tI) x (Jc b.2.1)=(ċ b x).map fun g=>g.2.1:=by
 rw[ZJ,GS h]; rfl
def Uv {ρ:Type} {b:ę} (h:b.2.1.Pairwise fun a b=>a.1<b.1) (x:Int) (f:Int→Option ρ) (g:Option ρ):L5 (k:=tI) (v:=tI) x (Jc b.2.1) f g=match ċ b x with|some y=>f y.2.1|none=>g:=by
 unfold L5;rw[abR h]
 cases ċ b x<;>rfl
section
variable {ρ:Type} {b:ę}
def mix_L0 {l:List Int} (hl:l.length≤1000) (k0:Int→Option ρ) (k1:Unit→Option ρ):Ê (fun(v:Int) kk=>mS l v (fun u=>kk u) k0 k1) 1=if l.Pairwise (·<·) then k1 () else k0 1:=by
 refine Yl (fun i a c ha hc kn=>?_) (fun n hn kn=>?_)
 ·have hi:=(List.getElem?_eq_some_iff.1 hc).1;unfold mS
  have e:((i:Int)+1)=((i+1:Nat):Int):=by omega
  rw[e,Ò hi,É hc,Ô (by omega) (by omega),←e,Int.add_sub_cancel,É ha,Č,Ô (by omega) (by omega)];simp
 ·unfold mS;rw[Î (by simp[ilt,Ñ]; omega)]
def mix_L1 (hn:b.2.1.length≤1000) (k0:List (Int×Int)→Option ρ):Ê (fun(v:Int×List (Int×Int)) kk=>mR b.2.1 (Ø b.2.1) v.1 v.2 (fun u v=>kk (u,v)) k0) ((0:Int),[])=k0 (Jc b.2.1):=by
 refine ġ b.2.1 (fun i=>Jc (b.2.1.take i)) _ rfl (fun i g hi hg kn=>?_) (fun kn=>?_)
 ·try dsimp only
  unfold mR;rw[Ò hi,É hg,Ë hi (by omega)];congr 2;rw[take_succ hg,Jc,Jc,List.foldl_append];rfl
 ·try dsimp only
  unfold mR;rw[â,List.take_length]
def mix_L2 (hi:b.2.1.Pairwise fun a b=>a.1<b.1) {l:List Int} (hl:l.length≤1000) (X Y Z:Option ρ):Ê (fun(v:Int) kk=>mQ l (Ø l) (Jc b.2.1) v (fun u=>kk u) (fun z=>ifb (ige z (0:Int)) X Y) (fun _=>Z)) 0=if l.any (fun g=>(ċ b g).isNone) then X else Z:=by
 refine ũ l _ (fun z=>ifb (ige z (0:Int)) X Y) X Z (fun j=>Ù (by simp[ige]) _ _) (fun i a hia ha kn=>?_) (fun kn=>?_)
 ·unfold mQ;rw[Ò hia,É ha,Uv hi,Ë hia (by omega)]
  cases ċ b a<;>rfl
 ·unfold mQ;rw[â]
def mix_L3 (hi:b.2.1.Pairwise fun a b=>a.1<b.1) {l:List Int} (hl:l.length≤1000) (hk:∀x∈l,∃g,ċ b x=some g) (d:Int) (X Y Z:Option ρ):Ê (fun(v:Int) kk=>kj l (Ø l) d (Jc b.2.1) v (fun u=>kk u) (fun z=>ifb (ige z (0:Int)) X Y) (fun _=>Z)) 0=if l.any (fun g=>Gm b g d != 0) then X else Z:=by
 refine ũ l _ (fun z=>ifb (ige z (0:Int)) X Y) X Z (fun j=>Ù (by simp[ige]) _ _) (fun i a hia ha kn=>?_) (fun kn=>?_)
 ·unfold kj;rw[Ò hia,É ha,Uv hi,Ë hia (by omega)];obtain⟨g,hg⟩:=hk a (List.mem_of_getElem? ha);unfold Gm;rw[hg];dsimp only;rw[Č]
  by_cases h:d<g.2.1<;>simp[ilt,h]
 ·unfold kj;rw[â]
def mix_L4 (h:Φ b) {l:List Int} (hl:l.length≤1000) (hk:∀x∈l,∃g,ċ b x=some g) {d:Int} (hd:0≤d∧d<20000) (X Y Z:Option ρ):Ê (fun(v:Int) kk=>Ņ l (Ø l) b.1.1 b.1.2 b.2.1 b.2.2.1 b.2.2.2.1 b.2.2.2.2.1 b.2.2.2.2.2 d v (fun u=>kk u) (fun z=>ifb (ige z (0:Int)) X Y) (fun _=>Z)) 0=if l.any (fun g=>(lG b g d).isSome||(lG b g (d+1)).isSome) then X else Z:=by
 refine ũ l _ (fun z=>ifb (ige z (0:Int)) X Y) X Z (fun j=>Ù (by simp[ige]) _ _) (fun i a hia ha kn=>?_) (fun kn=>?_)
 ·unfold Ņ;obtain⟨g,hg⟩:=hk a (List.mem_of_getElem? ha)
  have hw:∀e,0≤e→e≤20000→yP ((b.1.1,b.1.2),b.2.1,b.2.2.1,b.2.2.2.1,b.2.2.2.2.1,b.2.2.2.2.2) a e=some ((lG b a e).isSome,0):=fun e h0 h1=>by
   rw[show(((b.1.1,b.1.2),b.2.1,b.2.2.1,b.2.2.2.1,b.2.2.2.2.1,b.2.2.2.2.2):ę)=b from rfl,ahs ⟨h.size,fun g hg=>by have:=(h.gaugeR hg).2.1; unfold I64; omega⟩]
   have:LO b a [e]=0:=by
    unfold LO;rw[if_neg (by simp[(ś b).2 h]),if_neg (by simp[O0,inP,h0,h1]),yr h.ids,hg]; rfl
   unfold aht;rw[if_neg (by simp[this])]
  rw[Ò hia,É ha,hw d hd.1 (by omega),À,Ô (by omega) (by omega),hw (d+1) (by omega) (by omega),À,Ë hia (by omega)];dsimp only
  cases(lG b a d).isSome<;>cases(lG b a (d+1)).isSome<;>rfl
 ·unfold Ņ;rw[â]
end
def aeK {b:ę} (h:Φ b) {l:List Mx} {i:Nat} {x:Mx} (hx:l[i]?=some x) (hn:i≤1000):D2 b l i=some (mixE b l i x):=by
 unfold D2 JC mixE;rw[É hx]
 by_cases h1:inP x.1 0 19999=true∧inP (x.2.length:Int) 2 5=true
 ·obtain⟨h1,h2⟩:=h1;rw[if_neg (by simp[h1,h2])];simp only[inP,cG,decide_eq_true_eq] at h1 h2
  have hl:x.2.length≤1000:=by omega
  rw[Î (by simp[ilt]; omega),Î (by simp[ige]; omega),Î (by simp[ilt,Ñ]; omega),Î (by simp[igt,Ñ]; omega),mix_L0 hl]
  by_cases h3:x.2.Pairwise (·<·)
  ·rw[if_pos h3,if_neg (by simpa using h3)]
   try dsimp only
   rw[mix_L1 (by have:=h.nG; omega),mix_L2 h.ids hl]
   by_cases h4:(x.2.any fun g=>(ċ b g).isNone)=true
   ·rw[if_pos h4,if_pos h4]
   ·have hk:∀y∈x.2,∃g,ċ b y=some g:=fun y hy=>by
     simp only[dg,not_exists,not_and,Option.isNone_iff_eq_none] at h4;exact Option.ne_none_iff_exists'.1 (h4 y hy)
    rw[if_neg h4,if_neg h4,mix_L3 h.ids hl hk]
    by_cases h5:(x.2.any fun g=>Gm b g x.1 != 0)=true
    ·rw[if_pos h5,if_pos h5]
    ·rw[if_neg h5,if_neg h5,mix_L4 h hl hk (by omega)]
     cases i with
     |zero =>
      rw[Î (by simp[igt]),if_neg (show ¬tR (fun y:Mx=>y.1) l 0 x=true by simp[tR])]
      split<;>rfl
     |succ i =>
      obtain⟨hi,_⟩:=cH.1 hx;have hy:l[i]?=some l[i]:=cE (by omega)
      have e:((i+1:Nat):Int)-1=i:=by omega
      rw[Ù (by simp[igt]),Ô (by omega) (by omega),e,É hy,Č];unfold tR;simp only[Nat.add_sub_cancel,hy,Option.any_some,Nat.succ_pos,decide_true,Bool.true_and,ile,decide_eq_true_eq]
      split
      ·rfl
      ·split<;>rfl
  ·rw[if_neg h3,if_pos h3]
 ·rw[if_pos (by simp only[dZ]; cases h2:inP x.1 0 19999<;>cases h3:inP (x.2.length:Int) 2 5<;>simp_all)]
  simp only[inP,cG,decide_eq_true_eq,not_and,Int.not_le] at h1;simp only[Č,ilt,ige,igt,Ñ,decide_eq_true_eq]
  split
  ·rfl
  split
  ·rfl
  split
  ·rfl
  rw[if_pos (by have:=h1 (by omega); omega)]
def Yj {b:ę} {l:List Mx} {i:Nat} {x:Mx} (h:mixE b l i x=0):x.2.length≤5:=by
 unfold mixE at h
 split at h
 ·cases h
 ·rename_i h1;simp[inP] at h1;omega
def aeY {n v:Nat} (hn:n≤5) (hv:v≤1000000000) {ρ:Type} (k0:Int→Option ρ):Ê (fun(u:Int×Int) kk=>mT (ZG n) u.1 u.2 (fun a b=>kk (a,b)) k0) ((v:Int),(0:Int))=k0 ((v*W0 n:Nat):Int):=by
 refine OB (List.range n) (fun i=>((v*W0 i:Nat):Int)) _ (fun _=>True) (by simp[W0]) trivial (fun i a hi ha _ kn=>.inr ⟨trivial,?_⟩) (fun _ kn=>?_)
 ·rw[fL] at hi
  try dsimp only
  unfold mT;have hf:=acI (n:=i) (by omega);have hb:v*W0 i≤1000000000*120:=Nat.mul_le_mul hv hf;have h2:v*W0 i*(i+1)≤1000000000*120*6:=Nat.mul_le_mul hb (by omega)
  have e:((v*W0 i:Nat):Int)*((i:Int)+1)=((v*W0 i*(i+1):Nat):Int):=by simp
  rw[afT hi,Ô (by omega) (by omega),e,Ô (by omega) (by omega),Ô (by omega) (by omega),W0,Nat.mul_assoc]
 ·rw[fL]
  try dsimp only
  unfold mT;rw[â]
def abQ {b:ę} {l:List Mx} {i:Nat} {x:Mx} (hx:l[i]?=some x) (hp:∀j y,j<i→l[j]?=some y→mixE b l j y=0) (he:mixE b l i x≠0):Og b l=some (mixE b l i x):=by
 have key:∀(m:List Mx) (k:Nat),l.drop k=m→k≤i→Ň (fun i x=>Z6 (mixE b l i x)) k m=some (mixE b l i x):=by
  intro m
  induction m with
  |nil =>
   intro k hk hki;have:=List.drop_eq_nil_iff.1 hk;have:=(cH.1 hx).1;omega
  |cons y m ih =>
   intro k hk hki
   have hy:l[k]?=some y:=by
    have:(l.drop k)[0]?=some y:=by rw[hk]; rfl
    simpa using this
   rw[Ň];rcases cZ k i with hlt|hge
   ·rw[hp k y hlt hy];simp only[Z6,if_true];refine ih (k+1) ?_ hlt;rw[←List.tail_drop,hk]; rfl
   ·have:k=i:=by omega
    subst this;rw[hx] at hy; cases hy;simp[Z6,he]
 exact key l 0 rfl (dQ _)
def I6 {b:ę} {l:List Mx} (hp:∀j y,l[j]?=some y→mixE b l j y=0):Og b l=none:=by
 rw[Og,i5];intro j y hy;rw[du,hp j y hy]; rfl
def jl {m:ń} (hs:In m.1) (hn:m.2.length≤1000):ŗ m=some (ė m):=by
 unfold ŗ JR ė;rw[rB hs.size hs.num,À]
 by_cases hc:Ř m.1=0
 ·have hg:=(ś _).1 hc;rw[Î (by simp[ine,hc]),if_neg (by simp[hc])]
  by_cases h4:4<m.2.length
  ·rw[Ù (by simp[igt,Ñ]; omega),if_pos h4]
  ·rw[Î (by simp[igt,Ñ]; omega),if_neg h4];refine OB m.2 (fun i=>((zc (m.2.take i):Nat):Int)) _ (fun i=>∀j y,j<i→m.2[j]?=some y→mixE m.1 m.2 j y=0) (by simp[zc]) (fun j y h _=>by omega) (fun i x hi hx hp kn=>?_) (fun hp kn=>?_)
   ·try dsimp only
    unfold qL;rw[Ò hi,É hx,show(((m.1.1.1,m.1.1.2),m.1.2.1,m.1.2.2.1,m.1.2.2.2.1,m.1.2.2.2.2.1,m.1.2.2.2.2.2):ę)=m.1 from rfl,aeK hg hx (by omega),À]
    by_cases he:mixE m.1 m.2 i x=0
    ·rw[Î (by simp[ine,he])]
     have h5:∀y∈m.2.take i,y.2.length≤5:=fun y hy=>by
      obtain⟨j,hj,rfl⟩:=cR.1 hy;rw[cY] at hj;rw[eQ];exact Yj (hp j _ (by omega) (cE (by omega)))
     have hb:=XY (l:=m.2.take i) (n:=4) (by rw[cY]; omega) h5
     have hb2:(120:Nat) ^ 4=207360000:=by decide
     refine .inr ⟨fun j y hj hy=>?_,?_⟩
     ·rcases cZ j i with h|h
      ·exact hp j y h hy
      ·have:j=i:=by omega
       subst this;rw[hx] at hy; cases hy;exact he
     ·rw[aeY (Yj he) (by omega),Ë hi (by omega),NW hx]
    ·refine .inl ?_;rw[Ù (by simp[ine,he]),abQ hx hp he]
   ·try dsimp only
    unfold qL;rw[â,I6 fun j y hy=>hp j y (List.getElem?_eq_some_iff.1 hy).1 hy,List.take_length];dsimp only;rw[Č];simp only[igt,decide_eq_true_eq]
    by_cases h:150<zc m.2
    ·rw[if_pos (by omega),if_pos h]
    ·rw[if_neg (by omega),if_neg h]
 ·rw[Ù (by simp[ine,hc]),if_pos hc]
def Sy {α:Type} [DecidableEq α] {l m:List α} (hl:l.length=m.length) (h:Ň (fun i a=>if m[i]?=some a then none else some false) 0 l=none):l=m:=by
 have:=i5.1 h;refine List.ext_getElem hl fun i h1 h2=>?_;have h3:=this i l[i] (cE h1);rw[du] at h3
 split at h3
 ·rename_i h4;rw[cE h2] at h4;exact(Option.some.inj h4).symm
 ·cases h3
def Sx {α:Type} [DecidableEq α] {l m:List α} {b:Bool} (h:Ň (fun i a=>if m[i]?=some a then none else some false) 0 l=some b):b=false∧l≠m:=by
 constructor
 ·have:∀(k:Nat) (x:List α) (b:Bool),Ň (fun i a=>if m[i]?=some a then none else some false) k x=some b→b=false:=by
   intro k x
   induction x generalizing k with
   |nil=>intro b h; cases h
   |cons a t ih =>
    intro b h;unfold Ň at h
    split at h
    ·rename_i c hc
     split at hc
     ·cases hc
     ·cases hc; cases h; rfl
    ·exact ih _ _ h
  exact this _ _ _ h
 ·intro e;subst e;rw[i5.2 fun j a ha=>by rw[du,if_pos ha]] at h;cases h
def LX {l m:List Int} (hn:l.length≤1000000):jj l m=some (decide (l=m)):=by
 unfold jj uF;rw[Ñ,Ñ]
 by_cases hl:l.length=m.length
 ·rw[Î (by simp[ine,hl])];refine eI (mj l (fun i a=>if m[i]?=some a then none else some false) some (some true) (fun i a hi ha kn=>?_) (fun kn=>?_)) ?_
  ·try dsimp only
   unfold jW;have hm:m[i]?=some m[i]:=List.getElem?_eq_getElem (by omega);rw[Ò hi,É ha,É hm,Ë hi (by omega),hm,Č]
   by_cases h:a=m[i]
   ·simp[ine,h]
   ·have h':¬m[i]=a:=fun e=>h e.symm;simp[ine,h,h']
  ·try dsimp only
   unfold jW;rw[â]
  ·cases h:Ň (fun i a=>if m[i]?=some a then none else some false) 0 l with
   |none=>simp[Sy hl h]
   |some b =>
    obtain⟨h1,h2⟩:=Sx h;simp[h1,h2]
 ·rw[Ù (by simp[ine]; omega)];have:l≠m:=fun e=>hl (by rw[e]);simp[this]
structure MixOk (b:ę) (x:Mx):Prop where
 day:0≤x.1∧x.1<20000
 len:2≤x.2.length∧x.2.length≤5
 asc:x.2.Pairwise (·<·)
 known:∀l∈x.2,∃g,ċ b l=some g∧g.2.1≤x.1
 home:∀l∈x.2,lG b l x.1=none∧lG b l (x.1+1)=none
def Tg {b:ę} {l:List Mx} {i:Nat} {x:Mx} (h:mixE b l i x=0):MixOk b x∧tR (fun y=>y.1) l i x=false:=by
 unfold mixE at h
 split at h
 ·cases h
 rename_i h1
 split at h
 ·cases h
 rename_i h2
 split at h
 ·cases h
 rename_i h3
 split at h
 ·cases h
 rename_i h4
 split at h
 ·cases h
 rename_i h5
 split at h
 ·cases h
 rename_i h6;simp only[inP,Bool.not_eq_true',Bool.and_eq_false_iff,not_or,Bool.not_eq_false,decide_eq_false_iff_not,Int.not_le,Bool.and_eq_true,decide_eq_true_eq] at h1;simp only[List.any_eq_true,not_exists,not_and,Option.isNone_iff_eq_none] at h3;simp only[List.any_eq_true,not_exists,not_and,bne_iff_ne,ne_eq,Decidable.not_not] at h4;simp only[List.any_eq_true,not_exists,not_and,Bool.or_eq_true,not_or,Option.isSome_iff_ne_none,ne_eq,Decidable.not_not] at h6;refine⟨⟨by omega,by omega,Decidable.not_not.1 h2,fun y hy=>?_,h6⟩,by simpa using h5⟩;obtain⟨g,hg⟩:=Option.ne_none_iff_exists'.1 (h3 y hy);refine⟨g,hg,?_⟩;have:=h4 y hy;unfold Gm at this;rw[hg] at this;dsimp only at this
 split at this
 ·cases this
 ·omega
structure MOk (m:ń):Prop where
 good:Φ m.1
 n4:m.2.length≤4
 mixE:∀i x,m.2[i]?=some x→mixE m.1 m.2 i x=0
 prod:zc m.2≤150
def Ģ (m:ń):ė m=0↔MOk m:=by
 unfold ė;constructor
 ·intro h
  split at h
  ·rename_i h1; exact absurd h h1
  rename_i h1
  split at h
  ·cases h
  rename_i h2
  cases hm:Og m.1 m.2 with
  |some e =>
   rw[hm] at h;dsimp only at h;rw[Og] at hm
   have key:∀(l:List Mx) (k:Nat) (e:Int),Ň (fun i x=>Z6 (mixE m.1 m.2 i x)) k l=some e→e≠0:=by
    intro l
    induction l with
    |nil=>intro k e h; cases h
    |cons y l ih =>
     intro k e h;rw[Ň] at h
     by_cases hz:mixE m.1 m.2 k y=0
     ·rw[hz] at h;exact ih (k+1) e h
     ·simp only[Z6,if_neg hz,Option.some.injEq] at h;rw[←h]; exact hz
   exact absurd h (key _ _ _ hm)
  |none =>
   rw[hm] at h;dsimp only at h
   split at h
   ·cases h
   rename_i h3;refine⟨(ś _).1 (Decidable.not_not.1 h1),by omega,fun i x hx=>?_,by omega⟩;have:=(i5.1 hm) i x hx;rw[Nat.zero_add] at this;unfold Z6 at this
   split at this
   ·assumption
   ·cases this
 ·intro h;rw[if_neg (by simp[(ś _).2 h.good]),if_neg (by have:=h.n4; omega),I6 h.mixE];dsimp only;rw[if_neg (by have:=h.prod; omega)]
section
variable {m:ń}
def MOk.mix (h:MOk m) {x:Mx} (hx:x∈m.2):MixOk m.1 x:=by
 obtain⟨i,hi,rfl⟩:=cR.1 hx;exact(Tg (h.mixE i _ (cE hi))).1
def MOk.days (h:MOk m):m.2.Pairwise fun a b=>a.1<b.1:=(Iu (fun y:Mx=>y.1) m.2).1 fun i x hx=>(Tg (h.mixE i x hx)).2
def MOk.len5 (h:MOk m):∀x∈m.2,x.2.length≤5:=fun x hx=>(h.mix hx).len.2
def MOk.in_ (h:MOk m):In m.1:=⟨h.good.size,fun g hg=>by have:=(h.good.gaugeR hg).2.1; unfold I64; omega⟩
end
def X3 {l:List Int} {i:Nat} (hi:i<l.length):(l[i]::(l.take i++l.drop (i+1))).Perm l:=by
 have h:l=l.take i++l[i]::l.drop (i+1):=by rw[←dB hi,dP]
 exact List.Perm.trans (List.perm_middle.symm) (by rw[←h])
def H6:∀{n:Nat} {l x:List Int},l.length=n→(x∈H7 n l↔x.Perm l)
 |0,l,x,h=>by
  have:l=[]:=cX.1 h;subst this;simp[H7]
 |n+1,l,x,h=>by
  rw[H7,if_neg (by omega)];simp only[dt,gb,dj];constructor
  ·rintro⟨i,hi,y,hy,rfl⟩;have hy:=(H6 (n:=n) (by simp; omega)).1 hy;rw[ej,cE hi];exact(hy.cons _).trans (X3 hi)
  ·intro hp
   cases x with
   |nil=>have:=hp.length_eq; simp at this; omega
   |cons a x =>
    have ha:a∈l:=hp.subset (by simp);obtain⟨i,hi,rfl⟩:=cR.1 ha;refine⟨i,hi,x,(H6 (n:=n) (by simp; omega)).2 ?_,by rw[ej,cE hi]; rfl⟩;exact List.Perm.cons_inv (hp.trans (X3 hi).symm)
def Rn {α β:Type} (f:α→List β) (n:Nat):∀l:List α,(∀a∈l,(f a).length=n)→(l.flatMap f).length=l.length*n
 |[],_=>by simp
 |a::l,h=>by
  rw[dD,cI,h a (by simp),Rn f n l fun b hb=>h b (dk _ hb),cS,Nat.succ_mul]; omega
def Yg:∀{n:Nat} {l:List Int},l.length=n→(H7 n l).length=W0 n
 |0,_,_=>rfl
 |n+1,l,h=>by
  rw[H7,if_neg (by omega),Rn _ (W0 n) _ fun i hi=>by rw[dE]; exact Yg (by simp at hi ⊢; omega),fL,W0,h,Nat.mul_comm]
def Ee:∀{ms:List Mx} {w:Way},w∈jL ms↔Ŋ ms w
 |[],[]=>by simp[jL,Ŋ]
 |[],_::_=>by simp[jL,Ŋ]
 |m::ms,[]=>by simp[jL,Ŋ]
 |m::ms,l::ls=>by
  simp only[jL,dt,dj,Ŋ];constructor
  ·rintro⟨x,hx,y,hy,e⟩;cases e;exact⟨(H6 rfl).1 hx,Ee.1 hy⟩
  ·intro⟨h1,h2⟩;exact⟨l,(H6 rfl).2 h1,ls,Ee.2 h2,rfl⟩
def Lv:∀ms:List Mx,(jL ms).length=zc ms
 |[]=>rfl
 |m::ms=>by rw[jL,Rn _ (zc ms) _ fun x _=>by rw[dE,Lv],Yg rfl,zc]
def Œ (ms:List Mx):List Way:=ĺ (L4 ms) (jL ms)
def Z0 {α:Type} {k k':α→Int} {x:α} {l:List α} (hx:k x=k' x) (h:∀y∈l,k y=k' y):Z1 k x l=Z1 k' x l:=by
 induction l with
 |nil=>rfl
 |cons y l ih =>
  unfold Z1;rw[hx,h y (by simp),ih fun z hz=>h z (List.mem_cons_of_mem _ hz)]
def KT {α:Type} {k k':α→Int}:∀{l:List α},(∀y∈l,k y=k' y)→ĺ k l=ĺ k' l
 |[],_=>rfl
 |x::l,h=>by
  have hl:=KT fun y hy=>h y (dk x hy);show Z1 k x (ĺ k l)=Z1 k' x (ĺ k' l);rw[hl];exact Z0 (h x (by simp)) fun y hy=>h y (dk _ ((ŋ (key:=k') l).mem.1 hy))
def mM {ms:List Mx} {w:Way}:w∈Œ ms↔Ŋ ms w:=by
 rw[Œ,(ŋ (jL ms)).mem,Ee]
def aaQ (ms:List Mx):(Œ ms).length=zc ms:=by rw[Œ,(ŋ (jL ms)).length,Lv]
section
variable {m:ń} {ρ:Type}
def MOk.wgt (h:MOk m) {w:Way} (hw:Ŋ m.2 w):Ĵ m w=some (L4 m.2 w) :=
 aaP hw (by have:=h.n4; omega) fun x hx=>by have:=h.len5 x hx; omega
def Ik {α:Type} {f:List α→α→(List α→Option ρ)→Option ρ} (h:∀v y kn,v.length≤1000000→f v y kn=kn (v++[y])):∀{xs:List α} {v:List α} {K:List α→Option ρ},v.length+xs.length≤1000000→xT f xs v K=K (v++xs)
 |[],v,K,_=>by simp[xT]
 |x::xs,v,K,hl=>by
  simp only[cS] at hl;rw[xT,h v x _ (by omega),Ik h (by simp; omega)]; simp
def ac1 (h:MOk m):mn m.2=some (jL m.2):=by
 unfold mn;rw[ð];simp only[Bool.and_eq_true,decide_eq_true_eq,List.all_eq_true];exact⟨by have:=h.n4; omega,fun x hx=>by have:=h.len5 x hx; omega⟩
def Ry (h:MOk m):(jL m.2).length≤150:=by rw[Lv]; exact h.prod
def Sq (h:MOk m):ĵ (jL m.2) (Ø (jL m.2)) m=some (Œ m.2,m):=by
 have h2:∀w∈jL m.2,Ĵ m w=some (L4 m.2 w):=fun w hw=>h.wgt (Ee.1 hw)
 have h3:∀w∈jL m.2,đ m w=L4 m.2 w:=fun w hw=>by unfold đ; rw[h2 w hw]; rfl
 rw[Ñ,aa6 (fun w hw=>by rw[h2 w hw,h3 w hw]) (by have:=Ry h; omega),KT h3]; rfl
def Ix (h:MOk m):ro m=some (Œ m.2):=by
 unfold ro PO;have hl:=Ry h;rw[ac1 h,À,Ik (fun v y kn hv=>by unfold AZ; rw[ð (Ó (by simp; omega))]) (by simp; omega),List.nil_append,Sq h];rfl
def ahl (hs:In m.1) (hn:m.2.length≤1000):Il m=some (if ė m≠0 then([],ė m) else(Œ m.2,0)):=by
 unfold Il P3;rw[jl hs hn,À]
 by_cases hc:ė m=0
 ·rw[Î (by simp[ine,hc]),if_neg (by simp[hc]),Ix ((Ģ m).1 hc)]; rfl
 ·rw[Ù (by simp[ine,hc]),if_pos hc]
end
def Ym {ρ:Type} (n:Nat) (p:Nat→Bool) (K0 K1:Option ρ) {f:Int→(Int→Option ρ)→Option ρ} (h:∀i:Nat,i<n→∀kn,f i kn=if p i then kn ((i:Int)+1) else K0) (hn:∀kn,f n kn=K1):Ê f 0=if (List.range n).all p then K1 else K0:=by
 have:=ũ (List.range n) (fun i=>!p i) (fun _=>K0) K0 K1 (f:=f) (fun _=>rfl) (fun i a hi ha kn=>by
  obtain⟨_,rfl⟩:=cH.1 ha;rw[fL] at hi;rw[h i hi kn,List.getElem_range]
  cases p i<;>rfl) (fun kn=>by rw[fL]; exact hn kn)
 rw[this]
 have e:(List.range n).any (fun i=>!p i)=!(List.range n).all p:=by rw[List.all_eq_not_any_not]; simp
 rw[e]
 cases(List.range n).all p<;>rfl
def rj:List Mx→Way→Bool
 |[],[]=>true
 |m::ms,l::ls=>decide (lP l=m.2)&&rj ms ls
 |_,_=>false
def OH:∀{ms:List Mx} {w:Way},(∀x∈ms,x.2.Pairwise (·<·))→(rj ms w=true↔Ŋ ms w)
 |[],[],_=>by simp[rj,Ŋ]
 |[],_::_,_=>by simp[rj,Ŋ]
 |_::_,[],_=>by simp[rj,Ŋ]
 |m::ms,l::ls,h=>by
  rw[rj,Ŋ,cG,decide_eq_true_eq,OH fun x hx=>h x (dk _ hx)];have hm:=h m (by simp);refine and_congr ⟨fun e=>by rw[←e]; exact(ŝ l).symm,fun e=>?_⟩ Iff.rfl;exact List.Perm.eq_of_pairwise (fun a b _ _ h1 h2=>Int.le_antisymm h1 h2) (lf l) (hm.imp fun h=>Int.le_of_lt h) ((ŝ l).trans e)
def acm {ms:List Mx} {w:Way} (hl:w.length=ms.length):rj ms w=(List.range ms.length).all fun i=>match ms[i]?,w[i]? with|some m,some l=>decide (lP l=m.2)|_,_=>false:=by
 induction ms generalizing w with
 |nil =>
  have:w=[]:=cX.1 hl;subst this; rfl
 |cons m ms ih =>
  cases w with
  |nil=>simp at hl
  |cons l w =>
   rw[rj,ih (by simpa using hl),cS,List.range_succ_eq_map,ft,List.all_map];rfl
def row_eq {l m:List Int} (hl:l.length=m.length) (hm:m.length≤5):(l.getD 0 0=m.getD 0 0∧l.getD 1 0=m.getD 1 0∧l.getD 2 0=m.getD 2 0∧l.getD 3 0=m.getD 3 0∧l.getD 4 0=m.getD 4 0)↔l=m:=by
 constructor
 ·intro⟨h0,h1,h2,h3,h4⟩;refine List.ext_getElem hl fun i hi hi'=>?_
  have e:∀k:Nat,l.getD k 0=m.getD k 0→k=i→l[i]=m[i]:=fun k hk e=>by
   subst e;simpa[ej,cE hi,cE hi'] using hk
  have:i=0∨i=1∨i=2∨i=3∨i=4:=by omega
  rcases this with h|h|h|h|h
  ·exact e 0 h0 h.symm
  ·exact e 1 h1 h.symm
  ·exact e 2 h2 h.symm
  ·exact e 3 h3 h.symm
  ·exact e 4 h4 h.symm
 ·rintro rfl; simp
def aeJ {m:ń} (h:MOk m) {w:Way} (hw:∀l∈w,l.length≤100000):D0 m w=some (rj m.2 w):=by
 unfold D0 Jv;have hn:=h.n4
 by_cases hl:w.length=m.2.length
 ·rw[Î (by simp[ine,Ñ]; omega),acm hl];have hp:∀i,i<m.2.length→∃x l,m.2[i]?=some x∧w[i]?=some l:=fun i hi=>⟨_,_,cE hi,cE (by omega)⟩;refine eI (Ym m.2.length (fun i=>match m.2[i]?,w[i]? with|some m,some l=>decide (lP l=m.2)|_,_=>false) (some false) (some true) (fun i hi kn=>?_) (fun kn=>?_)) ?_
  ·obtain⟨x,l,hx,hwl⟩:=hp i hi
   try dsimp only
   unfold qC;have hx5:=h.len5 x (List.mem_of_getElem? hx);have hl1:=hw l (List.mem_of_getElem? hwl);rw[Ò (by omega),É hwl,É hx,hx,hwl];dsimp only
   by_cases hll:l.length=x.2.length
   ·rw[Î (by simp[ine,Ñ]; omega)];unfold yE;rw[ð (Ó (by omega)),À,Ik (fun v y kn hv=>by unfold wY; rw[ð (Ó (by simp; omega))]) (by simp; omega),List.nil_append,ð (Ó (by omega))];unfold DZ;rw[À,À,Pg];have hr:=row_eq (l:=lP l) (m:=x.2) (by rw[(ŝ l).length_eq]; exact hll) hx5
    by_cases he:lP l=x.2
    ·obtain⟨e0,e1,e2,e3,e4⟩:=hr.2 he;rw[e0,e1,e2,e3,e4,Î (by simp[AB]),Ô (by omega) (by omega),if_pos (by simpa using he)]
    ·rw[Ù,if_neg (by simpa using he)]
     cases hb:(!((AB ((lP l).getD 0 0) (x.2.getD 0 0))&&((AB ((lP l).getD 1 0) (x.2.getD 1 0))&&((AB ((lP l).getD 2 0) (x.2.getD 2 0))&&((AB ((lP l).getD 3 0) (x.2.getD 3 0))&&((AB ((lP l).getD 4 0) (x.2.getD 4 0))&&true)))))) with
     |true=>rfl
     |false =>
      refine absurd (hr.1 ?_) he;simpa[AB] using hb
   ·rw[Ù (by simp[ine,Ñ]; omega),if_neg];intro e;simp only[decide_eq_true_eq] at e;have:=(ŝ l).length_eq;rw[e] at this;exact hll this.symm
  ·try dsimp only
   unfold qC;rw[Î (by simp[ilt,Ñ]; omega)]
  ·cases(List.range m.2.length).all (fun i=>match m.2[i]?,w[i]? with|some m,some l=>decide (lP l=m.2)|_,_=>false)<;>rfl
 ·rw[Ù (by simp[ine,Ñ]; omega)];congr 1
  symm
  clear hw
  have key:∀{ms:List Mx} {w:Way},w.length≠ms.length→rj ms w=false:=by
   intro ms
   induction ms with
   |nil=>intro w h; cases w with|nil=>exact absurd rfl h|cons _ _=>rfl
   |cons x ms ih =>
    intro w h
    cases w with
    |nil=>rfl
    |cons l w=>rw[rj,ih (by simpa using h),Bool.and_false]
  exact key hl
def LP (m:ń) (w:Way):Int:=if ė m≠0 then ė m else if rj m.2 w then 0 else 1
def adE {m:ń} (hs:In m.1) (hn:m.2.length≤1000) {w:Way} (hw:∀l∈w,l.length≤100000):D4 m w=some (LP m w):=by
 unfold D4 JJ LP;rw[jl hs hn,À]
 by_cases hc:ė m=0
 ·rw[Î (by simp[ine,hc]),if_neg (by simp[hc]),aeJ ((Ģ m).1 hc) hw,À]
  cases rj m.2 w<;>rfl
 ·rw[Ù (by simp[ine,hc]),if_pos hc]
def Xr {m:ń} {w:Way}:LP m w=0↔MOk m∧Ŋ m.2 w:=by
 unfold LP
 by_cases hc:ė m=0
 ·have h:=(Ģ m).1 hc;rw[if_neg (by simp[hc])];have:=OH (w:=w) fun x hx=>(h.mix hx).asc
  cases hi:rj m.2 w with
  |true=>simp[this.1 hi,h]
  |false =>
   exact⟨fun e=>absurd (show(1:Int)=0 from e) (by decide),fun e=>absurd (this.2 e.2) (by simp[hi])⟩
 ·rw[if_pos hc];exact⟨fun e=>absurd e hc,fun⟨e,_⟩=>absurd ((Ģ m).2 e) hc⟩
section
variable {ρ:Type}
def yC {α β:Type} (l:List α) (g:α→β) (K:List β→Option ρ) {f:Int×List β→(Int×List β→Option ρ)→Option ρ}
 (h:∀(i:Nat) (a:α),i<l.length→l[i]?=some a→∀(v:List β) kn,v.length=i→f (i,v) kn=kn ((i:Int)+1,v++[g a])) (hn:∀(v:List β) kn,f (l.length,v) kn=K v):Ê f (0,[])=K (l.map g):=by
 refine ġ l (fun i=>(l.take i).map g) _ rfl (fun i a hi ha kn=>?_) (fun kn=>?_)
 ·rw[h i a hi ha _ kn (by simp; omega),take_succ ha,fo]; rfl
 ·rw[hn,fF]
end
def ks (m:ń) (w:Way) (d:Int) (l:List Int):List Int:=lP (l.map fun x=>iM m.2 w x d)
def UT (m:ń) (w:Way) (c:Cmp):Cmp:=(c.1,c.2.1,ks m w c.2.1 c.2.2.1,ks m w c.2.1 c.2.2.2.1,c.2.2.2.2)
def trP (m:ń) (w:Way):ę :=
 (m.1.1,m.1.2.1,m.1.2.2.1.map (fun u=>(iM m.2 w u.1 u.2,u.2)),m.1.2.2.2.1.map (fun l=>(iM m.2 w l.1 l.2.1.1,l.2)),m.1.2.2.2.2.1.map (UT m w),m.1.2.2.2.2.2.map (fun n=>(iM m.2 w n.1 n.2,n.2)))
section
variable {ρ:Type} {m:ń} {w:Way}
def MOk.who (h:MOk m) (hw:Ŋ m.2 w) (x d:Int):sa m w x d=some (iM m.2 w x d) :=
 who_ok hw (by have:=h.n4; omega) (fun y hy=>by have:=h.len5 y hy; omega) x d
def tr_L0 (h:MOk m) (hw:Ŋ m.2 w) (k0:List (Int×Int)→Option ρ):Ê (fun(v:Int×List (Int×Int)) kk=>jT m w m.1.2.2.1 (Ø m.1.2.2.1) v.1 v.2 (fun a b=>kk (a,b)) k0) ((0:Int),[])=k0 (m.1.2.2.1.map fun u=>(iM m.2 w u.1 u.2,u.2)):=by
 have hn:=h.good.nU
 refine yC m.1.2.2.1 (fun u:Int×Int=>((iM m.2 w u.1 u.2,u.2):Int×Int)) k0 (fun i a hi ha v kn hv=>?_) (fun v kn=>?_)<;>(try dsimp only)<;>unfold jT
 ·rw[Ò hi,É ha,h.who hw,À,ð (Ó (by simp; omega)),Ë hi (by omega)]
 ·rw[â]
def tr_L1 (h:MOk m) (hw:Ŋ m.2 w) (k0:List L8→Option ρ):Ê (fun(v:Int×List L8) kk=>jS m w m.1.2.2.2.1 (Ø m.1.2.2.2.1) v.1 v.2 (fun a b=>kk (a,b)) k0) ((0:Int),[])=k0 (m.1.2.2.2.1.map fun l=>(iM m.2 w l.1 l.2.1.1,l.2)):=by
 have hn:=h.good.nL
 refine yC m.1.2.2.2.1 (fun l:L8=>((iM m.2 w l.1 l.2.1.1,l.2):L8)) k0 (fun i a hi ha v kn hv=>?_) (fun v kn=>?_)<;>(try dsimp only)<;>unfold jS
 ·rw[Ò hi,É ha,h.who hw,À,ð (Ó (by simp; omega)),Ë hi (by omega)]
 ·rw[â]
def BX (h:MOk m) (hw:Ŋ m.2 w) (d:Int) {l:List Int} (hl:l.length≤1000):i6 l d m w=some (ks m w d l):=by
 unfold i6 pb;rw[yC l (fun x:Int=>(iM m.2 w x d:Int)) (fun z=>ß (æ z.length) (some (wt z))) (fun i a hi ha v kn hv=>?_) (fun v kn=>?_),ð (Ó (by simp; omega)),Pg]; rfl
 ·try dsimp only
  unfold iK;rw[Ò hi,É ha,h.who hw,À,ð (Ó (by simp; omega)),Ë hi (by omega)]
 ·try dsimp only
  unfold iK;rw[â]
def tr_L2 (h:MOk m) (hw:Ŋ m.2 w) (k0:List Cmp→Option ρ):Ê (fun(v:Int×List Cmp) kk=>jR m w m.1.2.2.2.2.1 (Ø m.1.2.2.2.2.1) v.1 v.2 (fun a b=>kk (a,b)) k0) ((0:Int),[])=k0 (m.1.2.2.2.2.1.map (UT m w)):=by
 have hn:=h.good.nC
 refine yC m.1.2.2.2.2.1 (UT m w) k0 (fun i a hi ha v kn hv=>?_) (fun v kn=>?_)<;>(try dsimp only)<;>unfold jR
 ·obtain⟨p1,p2⟩:=h.good.size.piles a (cN ha);rw[Ò hi,É ha,BX h hw _ p1,À,BX h hw _ p2,À,ð (Ó (by simp; omega)),Ë hi (by omega)];rfl
 ·rw[â]
def tr_L3 (h:MOk m) (hw:Ŋ m.2 w) (k0:List (Int×Int)→Option ρ):Ê (fun(v:Int×List (Int×Int)) kk=>jQ m w m.1.2.2.2.2.2 (Ø m.1.2.2.2.2.2) v.1 v.2 (fun a b=>kk (a,b)) k0) ((0:Int),[])=k0 (m.1.2.2.2.2.2.map fun n=>(iM m.2 w n.1 n.2,n.2)):=by
 have hn:=h.good.nK
 refine yC m.1.2.2.2.2.2 (fun n:Int×Int=>((iM m.2 w n.1 n.2,n.2):Int×Int)) k0 (fun i a hi ha v kn hv=>?_) (fun v kn=>?_)<;>(try dsimp only)<;>unfold jQ
 ·rw[Ò hi,É ha,h.who hw,À,ð (Ó (by simp; omega)),Ë hi (by omega)]
 ·rw[â]
def qd (h:MOk m) (hw:Ŋ m.2 w):iu m w=some (trP m w):=by
 have h1:=h.good.nG;unfold iu uk trP;rw[ð (Ó (by omega)),tr_L0 h hw,tr_L1 h hw,tr_L2 h hw,tr_L3 h hw]
end
def Rh {l:List Int} {x:Int} (h:x∈l):∃k,l.findIdx? (·==x)=some k∧l[k]?=some x:=by
 cases hf:l.findIdx? (·==x) with
 |none =>
  have:=dC.1 hf x h;simp at this
 |some k =>
  obtain⟨hk,he,_⟩:=dF.1 hf;exact⟨k,rfl,by rw[cE hk]; simpa using he⟩
def Ih {l:List Int} {x:Int} (h:x∉l):l.findIdx? (·==x)=none:=by
 rw[dC];intro y hy;simp only[beq_eq_false_iff_ne];exact fun e=>h (e▸hy)
def idx_at {l:List Int} (hn:l.Nodup) {k:Nat} {x:Int} (h:l[k]?=some x):l.findIdx? (·==x)=some k:=by
 obtain⟨j,hj,hx⟩:=Rh (cN h);obtain⟨h1,e1⟩:=cH.1 h;obtain⟨h2,e2⟩:=cH.1 hx;rw[hj,(List.getElem_inj hn).1 (e2.trans e1.symm)]
def XL {d d0:Int} {l k:List Int} (hl:l.Nodup) (hk:k.Nodup) (hp:l.Perm k) (x:Int):stp d (d0,k) l (stp d (d0,l) k x)=x:=by
 unfold stp
 by_cases hd:d0<d
 ·simp only[if_pos hd]
  by_cases hx:x∈k
  ·obtain⟨i,h1,h2⟩:=Rh hx;rw[h1];dsimp only
   have hi:i<l.length:=by rw[hp.length_eq]; exact(cH.1 h2).1
   have e:l[i]?=some (l.getD i 0):=by rw[ej,cE hi]; rfl
   rw[idx_at hl e];dsimp only;rw[List.getD_eq_getElem?_getD,h2]; rfl
  ·rw[Ih hx];dsimp only;rw[Ih fun h=>hx (hp.subset h)]
 ·simp only[if_neg hd]
def aa1 {d:Int} {m:Mx} {l:List Int} (hp:l.Perm m.2) (x:Int):stp d m l x=x∨(m.1<d∧x∈m.2∧stp d m l x∈m.2):=by
 unfold stp
 by_cases hd:m.1<d
 ·simp only[if_pos hd]
  by_cases hx:x∈l
  ·obtain⟨i,h1,h2⟩:=Rh hx;rw[h1];dsimp only
   have hi:i<m.2.length:=by rw[←hp.length_eq]; exact(cH.1 h2).1
   exact .inr ⟨hd,hp.subset hx,by rw[ej,cE hi]; exact fe hi⟩
  ·rw[Ih hx];exact .inl rfl
 ·simp only[if_neg hd];exact .inl trivial
def afS:List Mx→Way→Int→Int→Int
 |m::ms,l::ls,x,d=>afS ms ls (stp d (m.1,l) m.2 x) d
 |_,_,x,_=>x
def adG {l:List Int} (h:l.Pairwise (·<·)):l.Nodup:=h.imp fun h=>Int.ne_of_lt h
def aaL:∀{ms:List Mx} {w:Way},Ŋ ms w→(∀x∈ms,x.2.Nodup)→∀x d,iM ms w (afS ms w x d) d=x
 |[],[],_,_,x,d=>rfl
 |m::ms,l::ls,h,hn,x,d=>by
  rw[afS,iM,aaL h.2 fun y hy=>hn y (dk _ hy)];exact XL (d0:=m.1) (h.1.nodup_iff.2 (hn m (by simp))) (hn m (by simp)) h.1 x
def WO:∀{ms:List Mx} {w:Way},Ŋ ms w→(∀x∈ms,x.2.Nodup)→∀x d,afS ms w (iM ms w x d) d=x
 |[],[],_,_,x,d=>rfl
 |m::ms,l::ls,h,hn,x,d=>by
  rw[afS,iM];have:=XL (d:=d) (d0:=m.1) (l:=m.2) (k:=l) (hn m (by simp)) (h.1.nodup_iff.2 (hn m (by simp))) h.1.symm (iM ms ls x d);rw[show stp d (m.1,l) m.2 (stp d m l (iM ms ls x d))=_ from this];exact WO h.2 (fun y hy=>hn y (dk _ hy)) x d
def aaM:∀{ms:List Mx} {w:Way} (Q:Int→Prop) {d:Int},Ŋ ms w→(∀m∈ms,m.1<d→∀x∈m.2,Q x)→∀{x:Int},Q x→Q (iM ms w x d)
 |[],[],Q,d,_,_,x,hx=>hx
 |m::ms,l::ls,Q,d,h,hm,x,hx=>by
  have:=aaM (x:=x) Q h.2 (fun y hy=>hm y (dk _ hy)) hx;rw[iM];rcases aa1 (d:=d) h.1 (iM ms ls x d) with e|⟨e1,_,e2⟩
  ·rw[e]; exact this
  ·exact hm m (by simp) e1 _ e2
def HV:∀{ms:List Mx} {w:Way} {d:Int},Ŋ ms w→∀{x:Int},(∀m∈ms,m.1<d→x∉m.2)→iM ms w x d=x
 |[],[],d,_,x,_=>rfl
 |m::ms,l::ls,d,h,x,hm=>by
  rw[iM,HV h.2 fun y hy=>hm y (dk _ hy)];rcases aa1 (d:=d) h.1 x with e|⟨e1,e2,_⟩
  ·exact e
  ·exact absurd e2 (hm m (by simp) e1)
def RX:∀{ms:List Mx} {w:Way} {d e:Int},Ŋ ms w→ms.Pairwise (fun a b=>a.1<b.1)→d≤e→∀{x:Int},(∀m∈ms,d≤m.1→m.1<e→x∉m.2)→iM ms w x e=iM ms w x d
 |[],[],d,e,_,_,_,x,_=>rfl
 |m::ms,l::ls,d,e,h,hs,hde,x,hm=>by
  rw[dv] at hs;rcases gA m.1 d with hlt|hge
  ·rw[iM,iM,RX h.2 hs.2 hde fun y hy=>hm y (dk _ hy)]
   have e1:∀y,stp e m l y=stp d m l y:=fun y=>by unfold stp; rw[if_pos hlt,if_pos (by omega)]
   exact e1 _
  ·have e1:iM (m::ms) (l::ls) x e=x:=HV h fun y hy hye=>by
    rcases cM.1 hy with rfl|hy'
    ·exact hm y (by simp) hge hye
    ·exact hm y hy (by have:=hs.1 y hy'; omega) hye
   have e2:iM (m::ms) (l::ls) x d=x:=HV h fun y hy hyd=>by
    rcases cM.1 hy with rfl|hy'
    ·omega
    ·have:=hs.1 y hy'; omega
   rw[e1,e2]
def Co {b:ę} (hi:b.2.1.Pairwise fun a b=>a.1<b.1) {id day:Int}:mP (iE b) id day=0↔∃g,ċ b id=some g∧g.2.1≤day:=by
 rw[←VA hi];unfold Gm
 cases ċ b id with
 |none=>simp
 |some g =>
  dsimp only
  by_cases h:day<g.2.1
  ·rw[if_pos h]; simp; omega
  ·rw[if_neg h]; simp; omega
def BS {b:ę} (hi:b.2.1.Pairwise fun a b=>a.1<b.1) {id day:Int}:aaU (iE b) id day=0↔O0 day=true∧∃g,ċ b id=some g∧g.2.1≤day:=by
 unfold aaU
 cases O0 day with
 |false=>simp
 |true=>simp[Co hi]
def Ut {b:ę} (hi:b.2.1.Pairwise fun a b=>a.1<b.1) {i:Nat} {l:L8}:Q5 b (iE b) i l=0↔oe l.2.1 0 20000=true∧inP l.2.2 0 1048576=true∧(∃g,ċ b l.1=some g∧g.2.1≤l.2.1.1) ∧
 (∀x∈b.2.2.2.1.take i,x.1=l.1→¬(x.2.1.1≤l.2.1.2∧l.2.1.1≤x.2.1.2))∧∀u∈b.2.2.1,u.1=l.1→inP u.2 l.2.1.1 l.2.1.2=false:=by
 unfold Q5;rw[←Co hi]
 cases oe l.2.1 0 20000 with
 |false=>simp
 |true =>
  cases inP l.2.2 0 1048576 with
  |false=>simp
  |true =>
   by_cases h:mP (iE b) l.1 l.2.1.1=0
   ·simp only[h,dz,cV,if_false,bne_self_eq_false,true_and]
    split
    ·rename_i h1;simp only[dg,cG,beq_iff_eq,decide_eq_true_eq] at h1;obtain⟨x,hx,e1,e2⟩:=h1;exact⟨fun e=>absurd e (by decide),fun e=>absurd e2 (e.1 x hx e1)⟩
    ·rename_i h1;simp only[dg,cG,beq_iff_eq,decide_eq_true_eq,not_exists,not_and] at h1
     split
     ·rename_i h2;simp only[dg,cG,beq_iff_eq] at h2;obtain⟨u,hu,e1,e2⟩:=h2;exact⟨fun e=>absurd e (by decide),fun e=>by have:=e.2 u hu e1; rw[e2] at this; cases this⟩
     ·rename_i h2;simp only[dg,cG,beq_iff_eq,not_exists,not_and] at h2;exact⟨fun _=>⟨fun x hx e ⟨p,q⟩=>h1 x hx e p q,fun u hu e=>by simpa using h2 u hu e⟩,fun _=>rfl⟩
   ·simp[h]
def NX {b:ę} (hi:b.2.1.Pairwise fun a b=>a.1<b.1) {c:Cmp}:wy b (iE b) c=0↔(∀x∈c.2.2.1++c.2.2.2.1,(∃g,ċ b x=some g∧g.2.1≤c.2.1)∧lG b x c.2.1=none) ∧
 (ÿ c.2.2.1 c.2.2.2.1).length≤1∧(ÿ c.2.2.2.1 c.2.2.1).length≤1∧(ÿ c.2.2.1 c.2.2.2.1).length+(ÿ c.2.2.2.1 c.2.2.1).length≠0:=by
 unfold wy;constructor
 ·intro h
  split at h
  ·cases h
  rename_i h1
  split at h
  ·cases h
  rename_i h2
  split at h
  ·cases h
  rename_i h3
  split at h
  ·cases h
  split at h
  ·cases h
  split at h
  ·cases h
  simp only[dg,not_exists,not_and,beq_iff_eq] at h1 h2;simp only[dg,not_exists,not_and,Option.isSome_iff_ne_none,ne_eq,Decidable.not_not] at h3;refine⟨fun x hx=>⟨(Co hi).1 ?_,h3 x hx⟩,by omega,by omega,by omega⟩;rcases Jd (iE b) x c.2.1 with e|e|e
  ·exact e
  ·exact absurd e (h2 x hx)
  ·exact absurd e (h1 x hx)
 ·intro⟨h1,h2,h3,h4⟩;have hz:∀x∈c.2.2.1++c.2.2.2.1,mP (iE b) x c.2.1=0:=fun x hx=>(Co hi).2 (h1 x hx).1;rw[if_neg,if_neg,if_neg,if_neg (by omega),if_neg (by omega),if_neg h4]
  ·simp only[dg,not_exists,not_and,Option.isSome_iff_ne_none,ne_eq,Decidable.not_not];exact fun x hx=>(h1 x hx).2
  ·simp only[dg,not_exists,not_and,beq_iff_eq]
   exact fun x hx e=>by rw[hz x hx] at e; cases e
  ·simp only[dg,not_exists,not_and,beq_iff_eq]
   exact fun x hx e=>by rw[hz x hx] at e; cases e
def Ga {b:ę} {x d:Int}:lG b x d=none↔∀l∈b.2.2.2.1,l.1=x→inP d l.2.1.1 l.2.1.2=false:=by
 unfold lG;rw[List.find?_eq_none];simp
def wz {m:ń} {w:Way} {d:Int} {l:List Int} {y:Int}:y∈ks m w d l↔∃x∈l,iM m.2 w x d=y:=by
 unfold ks;rw[(ŝ _).mem_iff,List.mem_map]
section
variable {m:ń} {w:Way}
def MOk.nd (h:MOk m):∀x∈m.2,x.2.Nodup:=fun x hx=>adG (h.mix hx).asc
def MOk.inj (h:MOk m) (hw:Ŋ m.2 w) {d x y:Int} (e:iM m.2 w x d=iM m.2 w y d):x=y:=by
 rw[←WO hw h.nd x d,e,WO hw h.nd]
def MOk.whoG (h:MOk m) (hw:Ŋ m.2 w) {d x:Int} (hx:∃g,ċ m.1 x=some g∧g.2.1≤d):∃g,ċ m.1 (iM m.2 w x d)=some g∧g.2.1≤d :=
 aaM (fun y=>∃g,ċ m.1 y=some g∧g.2.1≤d) hw (fun y hy hd z hz=>by
  obtain⟨g,h1,h2⟩:=(h.mix hy).known z hz
  exact⟨g,h1,by omega⟩) hx
def MOk.made (h:MOk m) (hw:Ŋ m.2 w) {x:Int} {g:Ā} (hg:ċ m.1 x=some g):iM m.2 w x g.2.1=x :=
 HV hw fun y hy hd hx=>by
  obtain⟨g',h1,h2⟩:=(h.mix hy).known x hx;rw[hg] at h1; cases h1;omega
def MOk.loan (h:MOk m) (hw:Ŋ m.2 w) {l:L8} (hl:l∈m.1.2.2.2.1) {d:Int} (hd:inP d l.2.1.1 l.2.1.2=true):iM m.2 w l.1 d=iM m.2 w l.1 l.2.1.1:=by
 simp only[inP,cG,decide_eq_true_eq] at hd;refine RX hw h.days hd.1 fun y hy h1 h2 hx=>?_;have:=(Ga.1 ((h.mix hy).home _ hx).1) l hl rfl;simp only[inP,Bool.and_eq_false_iff,decide_eq_false_iff_not] at this;omega
def acj (h:MOk m) (hw:Ŋ m.2 w) (d:Int) (A B:List Int):(ÿ (ks m w d A) (ks m w d B)).Perm ((ÿ A B).map fun x=>iM m.2 w x d):=by
 unfold ÿ;refine((ŝ _).filter _).trans ?_;rw[List.filter_map];refine List.Perm.of_eq ?_;congr 1;refine List.filter_congr fun x hx=>?_;simp only[Function.comp];congr 1;rw[Bool.eq_iff_iff,List.contains_iff_mem,List.contains_iff_mem,wz];exact⟨fun⟨y,hy,e⟩=>h.inj hw e▸hy,fun hy=>⟨x,hy,rfl⟩⟩
def XZ (h:MOk m) (hw:Ŋ m.2 w) {d:Int} {l:List Int} (hp:wA l=true) (hk:∀x∈l,∃g,ċ m.1 x=some g∧g.2.1≤d):wA (ks m w d l)=true:=by
 obtain⟨h1,h2,h3⟩:=(IR l).1 hp;refine(IR _).2 ⟨fun y hy=>?_,?_,by unfold ks; rw[(ŝ _).length_eq,List.length_map]; exact h3⟩
 ·obtain⟨x,hx,rfl⟩:=wz.1 hy;obtain⟨g,hg,_⟩:=h.whoG hw (hk x hx);obtain⟨g1,g2⟩:=iZ hg;have:=(h.good.gaugeR g1).2.2.2.1;rw[←g2]; exact this
 ·have hnd:(ks m w d l).Nodup:=by
   unfold ks;rw[(ŝ _).nodup_iff];exact List.pairwise_map.2 (h2.imp fun hlt e=>by have:=h.inj hw e; omega)
  exact((lf _).and hnd).imp fun⟨a,b⟩=>Int.lt_iff_le_and_ne.2 ⟨a,b⟩
def agd (h:MOk m) (hw:Ŋ m.2 w) {x d:Int} (ha:lG m.1 x d=none):lG (trP m w) (iM m.2 w x d) d=none:=by
 rw[Ga];intro l' hl' e;obtain⟨l,hl,rfl⟩:=dj.1 hl'
 cases hd:inP d l.2.1.1 l.2.1.2 with
 |false=>rfl
 |true =>
  rw[←h.loan hw hl hd] at e;have:=Ga.1 ha l hl (h.inj hw e);rw[hd] at this; cases this
def I2 {b:ę} (hi:b.2.1.Pairwise fun a b=>a.1<b.1):(Ú b).Nodup:=by
 unfold Ú List.Nodup;rw[List.pairwise_flatMap];refine⟨fun g _=>List.pairwise_map.2 ((vw b g).imp fun h e=>by cases e; omega),hi.imp fun hlt x hx y hy e=>?_⟩;obtain⟨d,_,rfl⟩:=List.mem_map.1 hx;obtain⟨d',_,rfl⟩:=List.mem_map.1 hy;simp only[Prod.mk.injEq] at e;omega
def wJ {b:ę} {x d:Int}:(x,d)∈Ú b↔∃g∈b.2.1,g.1=x∧d∈è b g:=by
 unfold Ú;simp only[List.mem_flatMap,List.mem_map];constructor
 ·rintro⟨g,hg,d',hd,e⟩;cases e;exact⟨g,hg,rfl,hd⟩
 ·rintro⟨g,hg,rfl,hd⟩;exact⟨g,hg,d,hd,rfl⟩
def yT (h:MOk m) (hw:Ŋ m.2 w) {d:Int} {A:List Int} {x:Int}:(ks m w d A).contains (iM m.2 w x d)=A.contains x:=by
 rw[gz,eJ,eJ,wz];exact⟨fun⟨y,hy,e⟩=>h.inj hw e▸hy,fun hy=>⟨x,hy,rfl⟩⟩
def agc (h:MOk m) (hw:Ŋ m.2 w) {x d:Int} (hn:(x,d)∈Ú m.1):(iM m.2 w x d,d)∈Ú (trP m w):=by
 obtain⟨g,hg,rfl,hd⟩:=wJ.1 hn;have hgo:=vl h.good.ids hg;obtain⟨g',e1,_⟩:=h.whoG hw (x:=g.1) (d:=d) ⟨g,hgo,(h.good.day hg hd).1⟩;obtain⟨e2,e3⟩:=iZ e1;refine wJ.2 ⟨g',e2,e3,gX.2 ?_⟩;rcases gX.1 hd with rfl|⟨c,hc,e4,rfl⟩|⟨n,hnn,e4,rfl⟩
 ·rw[h.made hw hgo,hgo] at e1;cases e1;exact .inl rfl
 ·refine .inr (.inl ⟨UT m w c,dj.2 ⟨c,hc,rfl⟩,?_,rfl⟩);rw[e3];show(ks m w c.2.1 c.2.2.1).contains _≠(ks m w c.2.1 c.2.2.2.1).contains _;rw[yT h hw,yT h hw];exact e4
 ·exact .inr (.inr ⟨_,dj.2 ⟨n,hnn,rfl⟩,by rw[e3,e4],rfl⟩)
def Si (h:MOk m) (hw:Ŋ m.2 w) {y d:Int} (hn:(y,d)∈Ú (trP m w)):∃x,iM m.2 w x d=y∧(x,d)∈Ú m.1:=by
 obtain⟨g,hg,rfl,hd⟩:=wJ.1 hn;have hg:g∈m.1.2.1:=hg;have hgo:=vl h.good.ids hg;have hx:iM m.2 w (afS m.2 w g.1 d) d=g.1:=aaL hw h.nd _ _
 have fin:∀x,iM m.2 w x d=g.1→(∃g',ċ m.1 x=some g')→(∀g':Ā,g'.1=x→d∈è m.1 g')→∃x,iM m.2 w x d=g.1∧(x,d)∈Ú m.1:=fun x e ⟨g',e1⟩ e2=>by
  obtain⟨e3,e4⟩:=iZ e1;exact⟨x,e,wJ.2 ⟨g',e3,e4,e2 g' e4⟩⟩
 rcases gX.1 hd with e|⟨c',hc',e4,e5⟩|⟨n',hn',e4,e5⟩
 ·subst e;exact⟨g.1,h.made hw hgo,wJ.2 ⟨g,hg,rfl,ru g⟩⟩
 ·obtain⟨c,hc,rfl⟩:=dj.1 hc';have e5:c.2.1=d:=e5;subst e5;have e4:(ks m w c.2.1 c.2.2.1).contains g.1≠(ks m w c.2.1 c.2.2.2.1).contains g.1:=e4;rw[←hx,yT h hw,yT h hw] at e4;refine fin _ hx ?_ fun g' e=>gX.2 (.inr (.inl ⟨c,hc,by rw[e]; exact e4,rfl⟩))
  have:afS m.2 w g.1 c.2.1∈c.2.2.1++c.2.2.2.1:=by
   rw[cJ,←eJ,←eJ]
   cases h1:c.2.2.1.contains (afS m.2 w g.1 c.2.1) with
   |true=>exact .inl rfl
   |false =>
    rw[h1] at e4;exact .inr (by simpa using e4)
  obtain⟨⟨g',e,_⟩,_⟩:=h.good.pile hc this;exact⟨g',e⟩
 ·obtain⟨n,hnl,rfl⟩:=dj.1 hn';have e5:n.2=d:=e5;have e4:iM m.2 w n.1 n.2=g.1:=e4;subst e5;obtain⟨_,g',e,_⟩:=(BS h.good.ids).1 (h.good.looks n hnl);exact fin n.1 e4 ⟨g',e⟩ fun g'' e=>gX.2 (.inr (.inr ⟨n,hnl,e.symm,rfl⟩))
def aev (m:ń) (w:Way) (n:Int×Int):Int×Int:=(iM m.2 w n.1 n.2,n.2)
def afH (h:MOk m):(trP m w).2.1.Pairwise fun a b=>a.1<b.1:=h.good.ids
def tr_len (h:MOk m) (hw:Ŋ m.2 w):(Ú (trP m w)).length=(Ú m.1).length:=by
 have h1:(Ú (trP m w)).length≤((Ú m.1).map (aev m w)).length:=fX (I2 (afH h)) fun n hn=>by
  obtain⟨x,e,hx⟩:=Si (y:=n.1) (d:=n.2) h hw hn;exact dj.2 ⟨(x,n.2),hx,Prod.ext e rfl⟩
 have h2:((Ú m.1).map (aev m w)).length≤(Ú (trP m w)).length:=by
  have hnd:((Ú m.1).map (aev m w)).Nodup:=by
   refine List.pairwise_map.2 ((I2 h.good.ids).imp ?_);intro a b hne e;unfold aev at e;simp only[Prod.mk.injEq] at e;obtain⟨e1,e2⟩:=e;rw[e2] at e1;exact hne (Prod.ext (h.inj hw e1) e2)
  refine fX hnd fun n hn=>?_;obtain⟨⟨x,d⟩,hx,rfl⟩:=dj.1 hn;exact agc h hw hx
 rw[dE] at h1 h2;omega
def rD (h:MOk m) (hw:Ŋ m.2 w):Φ (trP m w):=by
 have hg:=h.good;have hids:=afH (w:=w) h;have hsh:iE (trP m w)=iE m.1:=rfl;have hgo:∀x,ċ (trP m w) x=ċ m.1 x:=fun _=>rfl;have hlen:=tr_len h hw;refine⟨hg.film,hg.nG,by simpa[trP] using hg.nU,by simpa[trP] using hg.nL,by simpa[trP] using hg.nC,by simpa[trP] using hg.nK,hg.gauge,hids,?_,?_,?_,?_,by rw[hlen]; exact hg.nodes,by rw[hlen]; simpa[trP] using hg.links⟩
 ·intro u' hu';obtain⟨u,hu,rfl⟩:=dj.1 hu';obtain⟨e1,e2⟩:=(BS hg.ids).1 (hg.uses u hu);exact(BS hids).2 ⟨e1,h.whoG hw e2⟩
 ·intro i l' hl'
  obtain⟨l,hl,rfl⟩:∃l,m.1.2.2.2.1[i]?=some l∧(iM m.2 w l.1 l.2.1.1,l.2)=l':=by
   have:(m.1.2.2.2.1.map (fun l:L8=>(iM m.2 w l.1 l.2.1.1,l.2)))[i]?=some l':=hl';rw[eD] at this
   cases hx:m.1.2.2.2.1[i]? with
   |none=>rw[hx] at this; cases this
   |some l=>rw[hx] at this; exact⟨l,rfl,by simpa using this⟩
  have hlm:=cN hl;obtain⟨e1,e2,e3,e4,e5⟩:=(Ut hg.ids).1 (hg.loans i l hl);refine(Ut hids).2 ⟨e1,e2,h.whoG hw e3,fun x' hx' ex hov=>?_,fun u' hu' eu=>?_⟩
  ·have hx':x'∈(m.1.2.2.2.1.map (fun l:L8=>(iM m.2 w l.1 l.2.1.1,l.2))).take i:=hx';rw[←List.map_take] at hx';obtain⟨x,hx,rfl⟩:=List.mem_map.1 hx';have hxm:=List.mem_of_mem_take hx;have s1:=(tx hg hxm).1;have s2:=(tx hg hlm).1;dsimp only at ex hov
   have d1:inP (max x.2.1.1 l.2.1.1) x.2.1.1 x.2.1.2=true:=by simp[inP]; omega
   have d2:inP (max x.2.1.1 l.2.1.1) l.2.1.1 l.2.1.2=true:=by simp[inP]; omega
   rw[←h.loan hw hxm d1,←h.loan hw hlm d2] at ex;exact e4 x hx (h.inj hw ex) hov
  ·obtain⟨u,hu,rfl⟩:=List.mem_map.1 hu';dsimp only at eu ⊢
   cases hd:inP u.2 l.2.1.1 l.2.1.2 with
   |false=>rfl
   |true =>
    rw[←h.loan hw hlm hd] at eu;have:=e5 u hu (h.inj hw eu);rw[hd] at this; cases this
 ·intro i c' hc'
  obtain⟨c,hc,rfl⟩:∃c,m.1.2.2.2.2.1[i]?=some c∧UT m w c=c':=by
   have:(m.1.2.2.2.2.1.map (UT m w))[i]?=some c':=hc';rw[eD] at this
   cases hx:m.1.2.2.2.2.1[i]? with
   |none=>rw[hx] at this; cases this
   |some l=>rw[hx] at this; exact⟨l,rfl,by simpa using this⟩
  have hcm:=cN hc;obtain⟨n1,n2,n3,n4,n5,n6,n7⟩:=(kG c).1 (hg.nums hcm);have hp:=(NX hg.ids).1 (hg.pilesOf hcm);have hk:∀x∈c.2.2.1++c.2.2.2.1,∃g,ċ m.1 x=some g∧g.2.1≤c.2.1:=fun x hx=>(hp.1 x hx).1;have hnum:ZE (UT m w c)=true:=(kG _).2 ⟨n1,n2,n3,n4,n5,XZ h hw n6 fun x hx=>hk x (dA _ hx),XZ h hw n7 fun x hx=>hk x (dw _ hx)⟩;have l1:=(acj h hw c.2.1 c.2.2.1 c.2.2.2.1).length_eq;have l2:=(acj h hw c.2.1 c.2.2.2.1 c.2.2.1).length_eq;rw[dE] at l1 l2
  have hpi:wy (trP m w) (iE (trP m w)) (UT m w c)=0:=by
   refine(NX hids).2 ⟨fun y hy=>?_,?_,?_,?_⟩
   ·have hy:y∈ks m w c.2.1 c.2.2.1++ks m w c.2.1 c.2.2.2.1:=hy
    obtain⟨x,hx,rfl⟩:∃x∈c.2.2.1++c.2.2.2.1,iM m.2 w x c.2.1=y:=by
     rcases cJ.1 hy with hy|hy
     ·obtain⟨x,hx,e⟩:=wz.1 hy;exact⟨x,dA _ hx,e⟩
     ·obtain⟨x,hx,e⟩:=wz.1 hy;exact⟨x,dw _ hx,e⟩
    exact⟨h.whoG hw (hk x hx),agd h hw (hp.1 x hx).2⟩
   ·show(ÿ (ks m w c.2.1 c.2.2.1) (ks m w c.2.1 c.2.2.2.1)).length≤1;rw[l1]; exact hp.2.1
   ·show(ÿ (ks m w c.2.1 c.2.2.2.1) (ks m w c.2.1 c.2.2.1)).length≤1;rw[l2]; exact hp.2.2.1
   ·show(ÿ (ks m w c.2.1 c.2.2.1) (ks m w c.2.1 c.2.2.2.1)).length+(ÿ (ks m w c.2.1 c.2.2.2.1) (ks m w c.2.1 c.2.2.1)).length≠0;rw[l1,l2]; exact hp.2.2.2
  have h0:=hg.compares i c hc;unfold oE at h0 ⊢;rw[hg.nums hcm] at h0;rw[hnum,hpi]
  have ht:((trP m w).2.2.2.2.1.take i).any (fun x=>x.1==(UT m w c).1)=(m.1.2.2.2.2.1.take i).any fun x=>x.1==c.1:=by
   show((m.1.2.2.2.2.1.map (UT m w)).take i).any _=_;rw[←List.map_take,List.any_map]; rfl
  rw[ht];simp only[dz,cV,if_false] at h0 ⊢
  split at h0
  ·cases h0
  ·rename_i h1; rw[if_neg h1]
 ·intro n' hn';obtain⟨n,hn,rfl⟩:=dj.1 hn';obtain⟨e1,e2⟩:=(BS hg.ids).1 (hg.looks n hn);exact(BS hids).2 ⟨e1,h.whoG hw e2⟩
end
section
variable {L:List Lk} {N:Nat}
def RV (h:jm L N):mK ((N:Int),L)=some (kF L N,0):=by
 have h2:=h.n60;unfold mK rN;rw[lC h,À];dsimp only;rw[Î (by rfl),tZ h.links h.n1 (by omega),À]
 cases kF L N<;>rfl
end
def Xx (x y:List Int):List Int×List Int×Int:=if !wA x then([],[],1) else if !wA y then([],[],1) else(ÿ x y,ÿ y x,0)
def adQ {x y:List Int} (hx:x.length≤100000) (hy:y.length≤100000):oU x y=some (Xx x y):=by
 unfold oU FK Xx;rw[DL (by omega),À]
 cases wA x with
 |false=>rfl
 |true =>
  rw[DL (by omega),À]
  cases wA y with
  |false=>rfl
  |true =>
   rw[xP (by omega) (by omega),À,xP (by omega) (by omega),À];rfl
def less (b:ę) (ids:List Int):ę:=(b.1,b.2.1,b.2.2.1,b.2.2.2.1,b.2.2.2.2.1.filter (fun c=>!ids.contains c.1),b.2.2.2.2.2)
section
variable {b:ę} {ids:List Int}
def acg (h:tS b):tS (less b ids) :=
 ⟨h.gauges,h.uses,h.loans,cW (dW _ _) h.compares,h.looks,fun c hc=>h.piles c (dG.1 hc).1⟩
def Φ.distinct (h:Φ b):b.2.2.2.2.1.Pairwise fun a c=>a.1≠c.1:=by
 rw[List.pairwise_iff_getElem];intro i j hi hj hij he;have hz:=h.compares j _ (List.getElem?_eq_getElem hj);unfold oE at hz
 have hany:(b.2.2.2.2.1.take j).any (fun x=>x.1==b.2.2.2.2.1[j].1)=true:=by
  rw[dg];exact⟨b.2.2.2.2.1[i],cR.2 ⟨i,by rw[cY]; omega,by rw[eQ]⟩,by simp[he]⟩
 rw[hany] at hz
 (repeat' split at hz)<;>first|omega|simp_all
def acA {α β:Type} (f g:α→List β):∀l:List α,(∀a∈l,(f a).length≤(g a).length)→(l.flatMap f).length≤(l.flatMap g).length
 |[],_=>cF _
 |a::l,h=>by
  rw[dD,dD,cI,cI];have:=h a (by simp);have:=acA f g l fun c hc=>h c (by simp[hc]);omega
def lt_len:∀{x y:List Int},x.Pairwise (·<·)→(∀a∈x,a∈y)→x.length≤y.length:=by
 intro x y hx h;exact(fX (hx.imp fun h=>by omega) h)
def Φ.less (h:Φ b) (ids:List Int):Φ (less b ids):=by
 have hsub:∀c∈(ZzM.less b ids).2.2.2.2.1,c∈b.2.2.2.2.1:=fun c hc=>(dG.1 hc).1;have hlen:(ZzM.less b ids).2.2.2.2.1.length≤b.2.2.2.2.1.length:=dW _ _
 have hdays:∀g,(è (ZzM.less b ids) g).length≤(è b g).length:=fun g=>lt_len (vw _ g) fun d hd=>by
  rcases gX.1 hd with e|⟨c,hc,h1,h2⟩|hn
  ·exact gX.2 (.inl e)
  ·exact gX.2 (.inr (.inl ⟨c,hsub c hc,h1,h2⟩))
  ·exact gX.2 (.inr (.inr hn))
 have hnodes:(Ú (ZzM.less b ids)).length≤(Ú b).length:=acA _ _ _ fun g _=>by rw[dE,dE]; exact hdays g
 have hN:=h.nodes;have hC:=h.nC;refine⟨h.film,h.nG,h.nU,h.nL,Nat.le_trans hlen h.nC,h.nK,h.gauge,h.ids,h.uses,h.loans,fun i c hc=>?_,h.looks,Nat.le_trans hnodes hN,by omega⟩;have hcm:=hsub c (List.mem_of_getElem? hc);obtain⟨j,hj,hjc⟩:=List.mem_iff_getElem.1 hcm;have hz:=h.compares j c (by rw[List.getElem?_eq_getElem hj,hjc]);unfold oE at hz ⊢
 split at hz
 ·omega
 rename_i h1
 split at hz
 ·omega
 rw[if_neg h1,if_neg ?_]
 ·exact hz
 ·intro hany;obtain⟨x,hx,he⟩:=dg.1 hany;obtain⟨k,hk,hkx⟩:=cR.1 hx;rw[cY] at hk;rw[eQ] at hkx;obtain⟨hi,hic⟩:=cH.1 hc;have hp:=dm.1 ((h.distinct.sublist List.filter_sublist:(ZzM.less b ids).2.2.2.2.1.Pairwise fun a c=>a.1≠c.1)) k i (by omega) hi (by omega);rw[hkx,hic] at hp;exact hp (eq_of_beq he)
end
abbrev zC:Cmp:=((0:Int),(0:Int),[],[],(0:Int),(0:Int),(0:Int),(0:Int))
section
variable {a:List Cmp} {b:List Int}
def FM (b:List Int) (a:List Cmp):List Cmp:=a.filter fun c=>!b.contains c.1
def Xa (ha:a.length≤1000000) (hb:b.length≤1000000) (K:List Cmp→Option (ę×Int)):∀z:Nat,z<a.length→FM b (a.take z)=a.take z→(∀c,a[z]?=some c→b.contains c.1=true) →
 Ê (fun(v21:Int×Int×List Cmp) kk25=>Ξ b v21.1 v21.2.1 v21.2.2 (fun u22 u23 u24=>kk25 (u22,u23,u24)) (fun z19=>ß ((ile (0:Int) z19.1)&&(ile z19.1 (ì z19.2))) (ß ((ile (0:Int) z19.1)&&(ile z19.1 (ì (List.take (Int.toNat z19.1) z19.2++List.replicate (List.length z19.2-(Int.toNat z19.1)) zC++List.drop ((Int.toNat z19.1)+(List.length z19.2-(Int.toNat z19.1))) z19.2)))) (K (List.take (Int.toNat z19.1) (List.drop 0 (List.take (Int.toNat z19.1) z19.2++List.replicate (List.length z19.2-(Int.toNat z19.1)) zC++List.drop ((Int.toNat z19.1)+(List.length z19.2-(Int.toNat z19.1))) z19.2))))))) ((z:Int),((z:Int)+1),a)=K (FM b a):=by
 intro z hz hp hc
 refine ĕ (fun x:Int×Int×List Cmp=>∃i j:Nat,x.1=i∧x.2.1=j∧i<j∧j≤a.length∧x.2.2.length=a.length∧x.2.2.take i=FM b (a.take j)∧x.2.2.drop j=a.drop j) (fun x=>a.length-x.2.1.toNat) ?_
  ⟨z,z+1,rfl,by simp,by omega,by omega,rfl,?_,rfl⟩
 ·rintro⟨x1,x2,s⟩ ⟨i,j,h1,h2,hij,hja,hl,ht,hd⟩;simp only at h1 h2 hl ht hd;subst h1 h2;rcases cZ j a.length with hj|hj
  ·refine .inr ?_
   have hsj:s[j]?=some a[j]:=by
    have h3:(s.drop j)[0]?=(a.drop j)[0]?:=by rw[hd]
    rw[dV,dV] at h3;simpa[cE hj] using h3
   have hjs:j<s.length:=by omega
   have hos:ì s=((s.length:Nat):Int):=rfl
   have hta:FM b (a.take (j+1))=FM b (a.take j)++if b.contains a[j].1 then[] else[a[j]]:=by
    rw[take_succ (cE hj),FM,FM,eo];congr 1
    cases h:b.contains a[j].1 with
    |true=>simp only[dS,h,dz,cV,if_false,eM,if_true]
    |false=>simp only[dS,h,ff,cV,if_false,eM,if_true]
   cases h:b.contains a[j].1 with
   |true =>
    refine⟨(i,(j:Int)+1,s),⟨i,j+1,rfl,by simp,by omega,by omega,hl,?_,?_⟩,by simp; omega,fun kn=>?_⟩
    ·rw[hta,h]; simpa using ht
    ·have:=congrArg (List.drop 1) hd;simpa[fi,gO] using this
    ·try dsimp only
     unfold Ξ;rw[Ò hjs,hos,Ī hjs,ò hsj,ħ hb,À,h];simp only[Bool.not_true,é];rw[Ë hjs (by omega)]
   |false =>
    have his:i<s.length:=by omega
    refine⟨((i:Int)+1,(j:Int)+1,s.set i a[j]),⟨i+1,j+1,by simp,by simp,by omega,by omega,by simpa using hl,?_,?_⟩,by simp; omega,fun kn=>?_⟩
    ·show List.take (i+1) (s.set i a[j])=_;rw[hta,h,List.take_add_one,fq,gq (cF i),ht];simp[his]
    ·show List.drop (j+1) (s.set i a[j])=_;rw[gy (by omega)];have:=congrArg (List.drop 1) hd;simpa[fi,gO] using this
    ·try dsimp only
     unfold Ξ;rw[Ò hjs,hos,Ī hjs,ò hsj,ħ hb,À,h];simp only[Bool.not_false,jg];rw[Ī his,ò (List.getElem?_eq_getElem his),Ë his (by omega),Ë hjs (by omega),Int.toNat_natCast]
  ·refine .inl fun kn=>?_
   have hje:j=s.length:=by omega
   try dsimp only
   unfold Ξ;rw[hje,â];dsimp only
   have g1:((ile (0:Int) (i:Int))&&(ile (i:Int) (ì s)))=true:=by simp[ile,ì]; omega
   rw[ð g1]
   have g2:((ile (0:Int) (i:Int))&&(ile (i:Int) (ì (List.take (Int.toNat (i:Int)) s++List.replicate (List.length s-(Int.toNat (i:Int))) zC++List.drop ((Int.toNat (i:Int))+(List.length s-(Int.toNat (i:Int)))) s))))=true:=by
    simp[ile,ì]; omega
   rw[ð g2,cT,gF,cP,eS (by simp; omega),List.take_take,Nat.min_self,ht];rw[dT (by omega)]
 ·show List.take z a=FM b (a.take (z+1));have hz':a[z]?=some a[z]:=cE hz;rw[take_succ hz',FM,eo];have hc:=hc _ hz'
  have:List.filter (fun c:Cmp=>!b.contains c.1) [a[z]]=[]:=by simp only[dS,hc,dz,cV,if_false,eM]
  rw[this,df];exact hp.symm
end
def RS (b:ę) (ids:List Int):ę×Int:=if Ř b≠0 then(aav,Ř b) else(less b ids,0)
def chkK (b:ę) (y:List Cmp):Option (ę×Int):=Ã (ī (b.1,b.2.1,b.2.2.1,b.2.2.2.1,y,b.2.2.2.2.2)) fun r20=>ifb (ine r20 (0:Int)) (some ((((0:Int),(0:Int)),[],[],[],[],[]),r20)) (some ((b.1,b.2.1,b.2.2.1,b.2.2.2.1,y,b.2.2.2.2.2),(0:Int)))
def aftK (b:ę) (ids:List Int) (z10:Int):Option (ę×Int):=ifb (ieq z10 (-1:Int)) (chkK b b.2.2.2.2.1) (ck (z10+(1:Int)) fun n12=>Ê (fun(v21:Int×Int×List Cmp) kk25=>Ξ ids v21.1 v21.2.1 v21.2.2 (fun u22 u23 u24=>kk25 (u22,u23,u24)) (fun z19=>ß ((ile (0:Int) z19.1)&&(ile z19.1 (ì z19.2))) (ß ((ile (0:Int) z19.1)&&(ile z19.1 (ì (List.take (Int.toNat z19.1) z19.2++List.replicate (List.length z19.2-(Int.toNat z19.1)) zC++List.drop ((Int.toNat z19.1)+(List.length z19.2-(Int.toNat z19.1))) z19.2)))) (chkK b (List.take (Int.toNat z19.1) (List.drop 0 (List.take (Int.toNat z19.1) z19.2++List.replicate (List.length z19.2-(Int.toNat z19.1)) zC++List.drop ((Int.toNat z19.1)+(List.length z19.2-(Int.toNat z19.1))) z19.2))))))) (z10,n12,b.2.2.2.2.1))
set_option maxHeartbeats 1000000 in
def aax {b:ę} (h:In b) {ids:List Int} (hids:ids.length≤1000):vt b ids=some (RS b ids):=by
 have hs:=h.size;have h1:=hs.gauges; have h2:=hs.uses; have h3:=hs.loans; have h4:=hs.compares; have h5:=hs.looks;unfold vt BB RS;rw[rB hs h.num,À]
 by_cases hc:Ř b=0
 ·have hg:=(ś b).1 hc;rw[Î (by simp[ine,hc]),Ó (by omega),Am.iff_true,Ó (by omega),Am.iff_true,Ó (by omega),Am.iff_true,Ó (by omega),Am.iff_true,Ó (by omega),Am.iff_true,if_neg (show ¬(Ř b≠0) from fun h=>h hc)]
  have fin:∀y:List Cmp,y=FM ids b.2.2.2.2.1→chkK b y=some (less b ids,0):=by
   intro y hy;subst hy;unfold chkK;rw[show ī (b.1,b.2.1,b.2.2.1,b.2.2.2.1,FM ids b.2.2.2.2.1,b.2.2.2.2.2)=ī (less b ids) from rfl,rB (acg hs) h.num,À,(ś _).2 (hg.less ids)];rfl
  refine ġ b.2.2.2.2.1 (fun _=>b.2.2.2.2.1) _ rfl (fun i d hi hd kn=>?_) (fun kn=>?_)
  ·dsimp only;unfold mJ;obtain⟨p1,p2⟩:=hs.piles d (List.mem_of_getElem? hd)
   have e1:b.2.2.2.2.1.set i d=b.2.2.2.2.1:=by
    obtain⟨h,rfl⟩:=cH.1 hd;exact List.set_getElem_self h
   rw[Ò hi,Ī hi,ò hd,Ó (by omega),Am.iff_true,Ó (by omega),Am.iff_true,Ī hi,ò hd,cT];rw[show(d.1,d.2.1,d.2.2.1,d.2.2.2)=d from rfl,e1,Ī hi,iJ hd,Ë hi (by omega)];rw[show(d.1,d.2.1,d.2.2.1,d.2.2.2.1,d.2.2.2.2)=d from rfl,e1]
  ·try dsimp only
   unfold mJ;rw[â];dsimp only;refine Eq.trans (iX b.2.2.2.2.1 (fun c=>ids.contains c.1) (aftK b ids) (chkK b b.2.2.2.2.1) (fun i c hi hcc kn'=>?_) (fun kn'=>?_)) ?_
   ·try dsimp only
    unfold mI;rw[Ò hi,Ī hi,ò hcc,ħ (by omega),À,Ë hi (by omega),Č];rfl
   ·try dsimp only
    unfold mI;rw[â];rfl
   ·cases hf:b.2.2.2.2.1.findIdx? (fun c=>ids.contains c.1) with
    |none =>
     refine fin _ ?_;rw[FM,fB.2];intro x hx;have:=dC.1 hf x hx;rw[this]; rfl
    |some z =>
     obtain⟨hz,hcz,hlt⟩:=dF.1 hf
     have h1:ieq (z:Int) (-1)=false:=by simp[ieq]
     try dsimp only
     unfold aftK;rw[Î h1,Ë hz (by omega),Xa (by omega) (by omega) (chkK b) z hz ?_ ?_]
     ·exact fin _ rfl
     ·rw[FM,fB];intro x hx;obtain⟨j,hj,rfl⟩:=cR.1 hx;rw[cY] at hj;rw[eQ];have:=hlt j (by omega);simpa using this
     ·intro c hcc;rw[cE hz] at hcc;rw[←Option.some.inj hcc]; exact hcz
 ·rw[Ù (by simp[ine,hc]),if_pos hc];rfl
section
variable {ρ α:Type}
def acS (z0:α) (K:List α→Option ρ) (z:Int×List α):Option ρ :=
 ß ((ile (0:Int) z.1)&&(ile z.1 (ì z.2))) (ß ((ile (0:Int) z.1)&&(ile z.1 (ì (List.take (Int.toNat z.1) z.2++List.replicate (List.length z.2-(Int.toNat z.1)) z0++List.drop ((Int.toNat z.1)+(List.length z.2-(Int.toNat z.1))) z.2))))
  (K (List.take (Int.toNat z.1) (List.drop 0 (List.take (Int.toNat z.1) z.2++List.replicate (List.length z.2-(Int.toNat z.1)) z0++List.drop ((Int.toNat z.1)+(List.length z.2-(Int.toNat z.1))) z.2)))))
def W9 (z0:α) (K:List α→Option ρ) {i:Nat} {s:List α} (h:i≤s.length):acS z0 K ((i:Int),s)=K (s.take i):=by
 unfold acS
 have g1:((ile (0:Int) (i:Int))&&(ile (i:Int) (ì s)))=true:=by simp[ile,ì]; omega
 dsimp only;rw[ð g1]
 have g2:((ile (0:Int) (i:Int))&&(ile (i:Int) (ì (List.take (Int.toNat (i:Int)) s++List.replicate (List.length s-(Int.toNat (i:Int))) z0++List.drop ((Int.toNat (i:Int))+(List.length s-(Int.toNat (i:Int)))) s))))=true:=by
  simp[ile,ì]; omega
 rw[ð g2,cT,gF,cP,eS (by simp; omega),List.take_take,Nat.min_self]
def aaa (p:α→Bool) {a:List α} {F:Int→Int→List α→(Int→Int→List α→Option ρ)→Option ρ} {k0:Int×List α→Option ρ} {K:List α→Option ρ}
 (hF:∀(i j:Nat) (s:List α) (x:α),s.length=a.length→i<j→j<s.length→s[j]?=some x→x∈a→∀kn,F i j s kn=if p x then kn ((i:Int)+1) ((j:Int)+1) (s.set i x) else kn i ((j:Int)+1) s)
 (hE:∀(i:Nat) (s:List α) kn,i≤s.length→s.length=a.length→F i s.length s kn=k0 ((i:Int),s)) (hk:∀(i:Nat) (s:List α),i≤s.length→k0 ((i:Int),s)=K (s.take i))
 {z:Nat} (hz:z<a.length) (hp:∀x∈a.take z,p x=true) (hc:∀c,a[z]?=some c→p c=false) :
 Ê (fun(v:Int×Int×List α) kk=>F v.1 v.2.1 v.2.2 (fun x y w=>kk (x,y,w))) ((z:Int),((z:Int)+1),a)=K (a.filter p):=by
 refine ĕ (fun x:Int×Int×List α=>∃i j:Nat,x.1=i∧x.2.1=j∧i<j∧j≤a.length∧x.2.2.length=a.length∧x.2.2.take i=(a.take j).filter p∧x.2.2.drop j=a.drop j) (fun x=>a.length-x.2.1.toNat) ?_
  ⟨z,z+1,rfl,by simp,by omega,by omega,rfl,?_,rfl⟩
 ·rintro⟨x1,x2,s⟩ ⟨i,j,h1,h2,hij,hja,hl,ht,hd⟩;simp only at h1 h2 hl ht hd;subst h1 h2;rcases cZ j a.length with hj|hj
  ·refine .inr ?_
   have hsj:s[j]?=some a[j]:=by
    have h3:(s.drop j)[0]?=(a.drop j)[0]?:=by rw[hd]
    rw[dV,dV] at h3;simpa[cE hj] using h3
   have hta:(a.take (j+1)).filter p=(a.take j).filter p++if p a[j] then[a[j]] else[]:=by
    rw[take_succ (cE hj),eo];congr 1
    cases h:p a[j]<;>simp[h]
   have hdd:s.drop (j+1)=a.drop (j+1):=by
    have:=congrArg (List.drop 1) hd;simpa[fi,gO] using this
   have hf:=hF i j s a[j] hl hij (by omega) hsj (fe hj)
   cases h:p a[j] with
   |false =>
    refine⟨(i,(j:Int)+1,s),⟨i,j+1,rfl,by simp,by omega,by omega,hl,?_,hdd⟩,by simp; omega,fun kn=>by dsimp only; rw[hf,h]; rfl⟩;rw[hta,h]; simpa using ht
   |true =>
    have his:i<s.length:=by omega
    refine⟨((i:Int)+1,(j:Int)+1,s.set i a[j]),⟨i+1,j+1,by simp,by simp,by omega,by omega,by simpa using hl,?_,?_⟩,by simp; omega,fun kn=>by dsimp only; rw[hf,h]; rfl⟩
    ·show List.take (i+1) (s.set i a[j])=_;rw[hta,h,List.take_add_one,fq,gq (cF i),ht];simp[his]
    ·show List.drop (j+1) (s.set i a[j])=_;rw[gy (by omega)];exact hdd
  ·refine .inl fun kn=>?_
   have hje:j=s.length:=by omega
   try dsimp only
   rw[hje,hE i s _ (by omega) hl,hk i s (by omega),ht,dT (by omega)]
 ·show List.take z a=(a.take (z+1)).filter p;have hz':a[z]?=some a[z]:=cE hz;rw[take_succ hz',eo,fB.2 hp];simp[hc _ hz']
def W8 (p:α→Bool) {a:List α} {F1:Int→(Int→Option ρ)→Option ρ} {F:Int→Int→List α→(Int→Int→List α→Option ρ)→Option ρ} {k0:Int×List α→Option ρ} {K:List α→Option ρ} {kf:Int→Option ρ} {kend:Option ρ}
 (h1:∀(i:Nat) (x:α),i<a.length→a[i]?=some x→∀kn,F1 i kn=if !p x then kf i else kn ((i:Int)+1)) (h1e:∀kn,F1 a.length kn=kend) (hend:kend=K a)
 (hkf:∀z:Nat,z<a.length→kf z=Ê (fun(v:Int×Int×List α) kk=>F v.1 v.2.1 v.2.2 (fun x y w=>kk (x,y,w))) ((z:Int),((z:Int)+1),a))
 (hF:∀(i j:Nat) (s:List α) (x:α),s.length=a.length→i<j→j<s.length→s[j]?=some x→x∈a→∀kn,F i j s kn=if p x then kn ((i:Int)+1) ((j:Int)+1) (s.set i x) else kn i ((j:Int)+1) s)
 (hE:∀(i:Nat) (s:List α) kn,i≤s.length→s.length=a.length→F i s.length s kn=k0 ((i:Int),s)) (hk:∀(i:Nat) (s:List α),i≤s.length→k0 ((i:Int),s)=K (s.take i)):Ê F1 0=K (a.filter p):=by
 rw[iX a (fun x=>!p x) kf kend h1 h1e]
 cases hf:a.findIdx? (fun x=>!p x) with
 |none =>
  dsimp only;rw[hend,List.filter_eq_self.2];intro x hx;have:=List.findIdx?_eq_none_iff.1 hf x hx;simpa using this
 |some z =>
  obtain⟨hz,hcz,hlt⟩:=List.findIdx?_eq_some_iff_getElem.1 hf;dsimp only;rw[hkf z hz];refine aaa p hF hE hk hz (fun x hx=>?_) (fun c hc=>?_)
  ·obtain⟨j,hj,rfl⟩:=cR.1 hx;rw[cY] at hj;rw[eQ];have:=hlt j (by omega);simpa using this
  ·rw[cE hz] at hc;cases hc;simpa using hcz
end
def lF (m:ń) (w:Way):Bool:=kF (iY (trP m w)) ((Ú (trP m w)).length+1)
def rY (m:ń):List Way:=(Œ m.2).filter (lF m)
def K9 (m:ń):Way×Bool:=match (Œ m.2).find? (lF m) with|some w=>(w,true)|none=>([],false)
section
variable {m:ń} {w:Way} {ρ:Type}
def In_tr (h:MOk m) (hw:Ŋ m.2 w):In (trP m w):=⟨(rD h hw).size,h.in_.num⟩
def LV (h:MOk m) (hw:Ŋ m.2 w):iD (trP m w)=some ((((Ú (trP m w)).length:Int)+1,iY (trP m w)),Pe (trP m w),0):=by
 rw[Ve (In_tr h hw),RU,if_neg (by simp[(ś _).2 (rD h hw)])]
def vu (h:MOk m) (hw:Ŋ m.2 w):Θ m w=some (lF m w):=by
 unfold Θ wZ;rw[qd h hw,À,LV h hw,À];have:=RV (rD h hw).sys;simp only[Int.natCast_add,Int.cast_ofNat_Int] at this;rw[this]; rfl
def rC {i:Nat} (hi:(Œ m.2)[i]?=some w):Ŋ m.2 w:=mM.1 (cN hi)
def tW (h:MOk m):(Œ m.2).length≤150:=by rw[aaQ]; exact h.prod
def acu (h:MOk m):D3 m=some (rY m):=by
 unfold D3 PW;have hl:=Ry h;have hl2:=tW h;have hm:((((m.1.1.1,m.1.1.2),m.1.2.1,m.1.2.2.1,m.1.2.2.2.1,m.1.2.2.2.2.1,m.1.2.2.2.2.2),m.2):ń)=m:=rfl;rw[ac1 h,À,Ik (fun v y kn hv=>by unfold Bc; rw[ð (Ó (by simp; omega))]) (by simp; omega),List.nil_append,Sq h,À]
 refine W8 (a:=Œ m.2) (lF m) (K:=fun l=>some l) (k0:=acS [] fun l=>some l) (kf:=fun z6=>ifb (ieq z6 (-1:Int)) (some (Œ m.2)) (ck (z6+(1:Int)) fun n7=>Ê (fun(v15:Int×Int×List Way) kk19=>l8 m.1.1.1 m.1.1.2 m.1.2.1 m.1.2.2.1 m.1.2.2.2.1 m.1.2.2.2.2.1 m.1.2.2.2.2.2 m.2 v15.1 v15.2.1 v15.2.2 (fun u16 u17 u18=>kk19 (u16,u17,u18)) (acS [] fun l=>some l)) (z6,n7,Œ m.2)))
  (F:=fun a b c kn=>l8 m.1.1.1 m.1.1.2 m.1.2.1 m.1.2.2.1 m.1.2.2.2.1 m.1.2.2.2.2.1 m.1.2.2.2.2.2 m.2 a b c kn (acS [] fun l=>some l)) (kend:=some (Œ m.2)) (fun i x hi hx kn=>?_) (fun kn=>?_) rfl (fun z hz=>?_) (fun i j s x hs hij hj hx hxa kn=>?_) (fun i s kn hi hs=>?_) (fun i s hi=>W9 _ _ hi)
 ·try dsimp only
  unfold uq;rw[Ò hi,Ī hi,ò hx,hm,vu h (rC hx),À,Ë hi (by omega),Č];rfl
 ·try dsimp only
  unfold uq;rw[â]
 ·rw[Î (by simp[ieq]),Ë hz (by omega)]
 ·try dsimp only
  unfold l8;rw[Ò hj,show ì s=((s.length:Nat):Int) from rfl,Ī hj,ò hx,hm,vu h (mM.1 hxa),À];cases lF m x
  ·simp only[ff,dz,é,cV,if_false];rw[Ë hj (by omega)]
  ·simp only[ff,dz,jg,if_true];rw[Ī (by omega),ò (cE (by omega)),Ë (show i<s.length by omega) (by omega),Ë hj (by omega),cT]
 ·try dsimp only
  unfold l8;rw[â]
def rt (h:MOk m):ô m=some (K9 m):=by
 unfold ô ur;have hl2:=tW h;have hm:((((m.1.1.1,m.1.1.2),m.1.2.1,m.1.2.2.1,m.1.2.2.2.1,m.1.2.2.2.2.1,m.1.2.2.2.2.2),m.2):ń)=m:=rfl;rw[Ix h,À];refine Eq.trans (mj (Œ m.2) (fun _ w=>if lF m w then some (w,true) else none) (fun z=>some (z.1,z.2)) (some ([],false)) (fun i x hi hx kn=>?_) (fun kn=>?_)) ?_
 ·try dsimp only
  unfold jU;rw[Ò hi,É hx,hm,vu h (rC hx),À,Ë hi (by omega),Č]
  cases lF m x<;>rfl
 ·try dsimp only
  unfold jU;rw[â]
 ·rw[GR,K9]
  have key:∀l:List Way,l.findSome? (fun w=>if lF m w then some (w,true) else none)=(l.find? (lF m)).map fun w=>(w,true):=by
   intro l
   induction l with
   |nil=>rfl
   |cons x l ih =>
    rw[gu,fJ]
    cases h:lF m x with
    |true=>rfl
    |false=>exact ih
  rw[key]
  cases(Œ m.2).find? (lF m)<;>rfl
def Ō (m:ń):Bool:=(Œ m.2).any (lF m)
def pH (m:ń):(K9 m).2=Ō m:=by
 unfold K9 Ō
 cases h:(Œ m.2).find? (lF m) with
 |none =>
  symm
  rw[dM]
  exact fun x hx=>by simpa using(d9.1 h) x hx
 |some w =>
  symm
  rw[dg];exact⟨w,fj h,fV h⟩
def All_ok (hs:In m.1) (hn:m.2.length≤1000):Rq m=some (if ė m≠0 then([],ė m) else(rY m,0)):=by
 unfold Rq Wh;rw[jl hs hn,À]
 by_cases hc:ė m=0
 ·rw[Î (by simp[ine,hc]),if_neg (by simp[hc]),acu ((Ģ m).1 hc)]; rfl
 ·rw[Ù (by simp[ine,hc]),if_pos hc]
def BF (m:ń):Way×Int:=if ė m≠0 then([],ė m) else if Ō m then((K9 m).1,0) else([],5)
def LY (hs:In m.1) (hn:m.2.length≤1000):nE m=some (BF m):=by
 unfold nE JO BF;rw[jl hs hn,À]
 by_cases hc:ė m=0
 ·rw[Î (by simp[ine,hc]),if_neg (by simp[hc]),rt ((Ģ m).1 hc),À,pH]
  cases Ō m<;>rfl
 ·rw[Ù (by simp[ine,hc]),if_pos hc]
def acH (m:ń) (p:Cmp→Bool):ń:=((m.1.1,m.1.2.1,m.1.2.2.1,m.1.2.2.2.1,m.1.2.2.2.2.1.filter p,m.1.2.2.2.2.2),m.2)
def κ (m:ń) (ids:List Int):ń:=acH m fun c=>ids.contains c.1
def PC (hn:m.1.2.2.2.2.1.length≤1000) {ids:List Int} (hi:ids.length≤1000000):vm m ids=some (κ m ids):=by
 unfold vm PP;rw[ð (Ó (by omega))]
 refine W8 (a:=m.1.2.2.2.2.1) (fun c=>ids.contains c.1) (K:=fun l=>some ((m.1.1,m.1.2.1,m.1.2.2.1,m.1.2.2.2.1,l,m.1.2.2.2.2.2),m.2)) (k0:=acS zC fun l=>some ((m.1.1,m.1.2.1,m.1.2.2.1,m.1.2.2.2.1,l,m.1.2.2.2.2.2),m.2))
  (kf:=fun z4=>ifb (ieq z4 (-1:Int)) (some m) (ck (z4+(1:Int)) fun n5=>Ê (fun(v13:Int×Int×List Cmp) kk17=>l6 ids v13.1 v13.2.1 v13.2.2 (fun u14 u15 u16=>kk17 (u14,u15,u16)) (acS zC fun l=>some ((m.1.1,m.1.2.1,m.1.2.2.1,m.1.2.2.2.1,l,m.1.2.2.2.2.2),m.2))) (z4,n5,m.1.2.2.2.2.1)))
  (F:=fun a b c kn=>l6 ids a b c kn (acS zC fun l=>some ((m.1.1,m.1.2.1,m.1.2.2.1,m.1.2.2.2.1,l,m.1.2.2.2.2.2),m.2))) (kend:=some m) (fun i x hi' hx kn=>?_) (fun kn=>?_) rfl (fun z hz=>?_) (fun i j s x hs hij hj hx hxa kn=>?_) (fun i s kn hi hs=>?_) (fun i s hi=>W9 _ _ hi)
 ·try dsimp only
  unfold un;rw[Ò hi',Ī hi',ò hx,ħ hi,À,Ë hi' (by omega),Č];rfl
 ·try dsimp only
  unfold un;rw[â]
 ·rw[Î (by simp[ieq]),Ë hz (by omega)]
 ·try dsimp only
  unfold l6;rw[Ò hj,show ì s=((s.length:Nat):Int) from rfl,Ī hj,ò hx,ħ hi,À];cases ids.contains x.1
  ·simp only[ff,dz,é,cV,if_false];rw[Ë hj (by omega)]
  ·simp only[ff,dz,jg,if_true];rw[Ī (by omega),ò (cE (by omega)),Ë (show i<s.length by omega) (by omega),Ë hj (by omega),cT]
 ·try dsimp only
  unfold l6;rw[â]
end
section
variable {b:ę}
def Ie (h:Φ b) (g:Ā) {f t u:Int} (h1:f≤t) (h2:t≤u):jH b g f u=jH b g f t+jH b g t u:=by
 obtain⟨n,rfl⟩:∃n:Nat,u=t+n:=⟨(u-t).toNat,by omega⟩;clear h2
 induction n with
 |zero=>simp[Ur]
 |succ n ih =>
  have e:t+((n+1:Nat):Int)=(t+n)+1:=by omega
  rw[e,Uq h g (show f≤t+(n:Int) by omega),Uq h g (show t≤t+(n:Int) by omega),ih];omega
def BC (h:Φ b) {g:Ā} (hg:g∈b.2.1) {f t:Int} (hf:0≤f):0≤jH b g f t:=(vf h hg hf).1
def gY (b:ę) (id d:Int):Int:=match jx (Ú b) id d with|some j=>(j:Int)+1|none=>0
def qk (h:Φ b) {i:Nat} {g:Ā} (hg:b.2.1[i]?=some g) {k:Nat} {d:Int} (hk:(è b g)[k]?=some d):gY b g.1 d=(off b i:Int)+k+1:=by
 unfold gY;rw[PE h hg hk];simp only;omega
structure tT (b:ę) (p:Int→Int) (g:Ā):Prop where
 hi:p (gY b g.1 g.2.1)≤p 0+(g.2.2.1+g.2.2.2.1.2)
 lo:p 0+(g.2.2.1+g.2.2.2.1.1)≤p (gY b g.1 g.2.1)
 down:∀d e,d∈è b g→e∈è b g→d≤e→p (gY b g.1 e)≤p (gY b g.1 d)
 loss:∀d e,d∈è b g→e∈è b g→d≤e→p (gY b g.1 d)≤p (gY b g.1 e)+jH b g d e
def DR (h:Φ b) {i:Nat} {g:Ā} (hg:b.2.1[i]?=some g) {p:Int→Int}:(∀l∈Ő b g,p l.2.1≤p l.1+l.2.2)↔tT b p g:=by
 have hgm:=cN hg;obtain⟨tl,htl⟩:=UL h hgm
 have h0:gY b g.1 g.2.1=(off b i:Int)+1:=by
  have:=qk h hg (k:=0) (d:=g.2.1) (by rw[htl]; rfl);rw[this];omega
 constructor
 ·intro hl;have e1:=hl _ ((ļ h hg).2 (.inl rfl));have e2:=hl _ ((ļ h hg).2 (.inr (.inl rfl)));simp only at e1 e2
  have step:∀(k:Nat) (d e:Int),(è b g)[k]?=some d→(è b g)[k+1]?=some e→p (gY b g.1 e)≤p (gY b g.1 d)∧p (gY b g.1 d)≤p (gY b g.1 e)+jH b g d e:=by
   intro k d e hd he;have a1:=hl _ ((ļ h hg).2 (.inr (.inr ⟨k,d,e,hd,he,.inl rfl⟩)));have a2:=hl _ ((ļ h hg).2 (.inr (.inr ⟨k,d,e,hd,he,.inr rfl⟩)));simp only at a1 a2;rw[qk h hg hd,qk h hg he]
   have e3:(off b i:Int)+((k+1:Nat):Int)+1=(off b i:Int)+k+2:=by omega
   rw[e3];exact⟨by omega,a2⟩
  have pair:∀(n k:Nat) (d e:Int),(è b g)[k]?=some d→(è b g)[k+n]?=some e→p (gY b g.1 e)≤p (gY b g.1 d)∧p (gY b g.1 d)≤p (gY b g.1 e)+jH b g d e:=by
   intro n
   induction n with
   |zero =>
    intro k d e hd he;rw[fH,hd] at he;cases he;rw[Ur g (dR _)];omega
   |succ n ih =>
    intro k d e hd he;have hlt:=(cH.1 he).1;have hm:(è b g)[k+n]?=some ((è b g)[k+n]'(by omega)):=cE (by omega);obtain⟨a1,a2⟩:=ih k d _ hd hm;obtain⟨a3,a4⟩:=step (k+n) _ e hm he
    have o1:d≤(è b g)[k+n]'(by omega):=by
     obtain⟨hkl,hkd⟩:=cH.1 hd;rcases fY n with rfl|hn
     ·rw[←hkd]; exact Int.le_of_eq (by congr 1)
     ·have:=(dm.1 (vw b g)) k (k+n) hkl (by omega) (by omega);rw[hkd] at this; omega
    have o2:(è b g)[k+n]'(by omega)≤e:=by
     obtain⟨hel,hee⟩:=cH.1 he;have:=(dm.1 (vw b g)) (k+n) (k+(n+1)) (by omega) hel (by omega);rw[hee] at this; omega
    have:=Ie h g o1 o2;omega
  have any:∀d e,d∈è b g→e∈è b g→d≤e→p (gY b g.1 e)≤p (gY b g.1 d)∧p (gY b g.1 d)≤p (gY b g.1 e)+jH b g d e:=by
   intro d e hd he hde;obtain⟨k,hk,rfl⟩:=cR.1 hd;obtain⟨m,hm,rfl⟩:=cR.1 he
   have hkm:k≤m:=by
    rcases cZ m k with hlt|hge
    ·have:=(dm.1 (vw b g)) m k hm hk hlt; omega
    ·exact hge
   exact pair (m-k) k _ _ (cE hk) (by rw[show k+(m-k)=m by omega]; exact cE hm)
  exact⟨by rw[h0]; omega,by rw[h0]; omega,fun d e hd he hde=>(any d e hd he hde).1,fun d e hd he hde=>(any d e hd he hde).2⟩
 ·intro hf l hl;rcases(ļ h hg).1 hl with rfl|rfl|⟨k,d,e,hd,he,rfl|rfl⟩
  ·have:=hf.hi; rw[h0] at this; simp only; omega
  ·have:=hf.lo; rw[h0] at this; simp only; omega
  ·have hde:d≤e:=by
    obtain⟨a1,a2⟩:=cH.1 hd;obtain⟨a3,a4⟩:=cH.1 he;have:=(dm.1 (vw b g)) k (k+1) a1 a3 (by omega);rw[a2,a4] at this; omega
   have:=hf.down d e (cN hd) (cN he) hde;rw[qk h hg hd,qk h hg he] at this
   have e3:(off b i:Int)+((k+1:Nat):Int)+1=(off b i:Int)+k+2:=by omega
   rw[e3] at this;simp only;omega
  ·have hde:d≤e:=by
    obtain⟨a1,a2⟩:=cH.1 hd;obtain⟨a3,a4⟩:=cH.1 he;have:=(dm.1 (vw b g)) k (k+1) a1 a3 (by omega);rw[a2,a4] at this; omega
   have:=hf.loss d e (cN hd) (cN he) hde;rw[qk h hg hd,qk h hg he] at this
   have e3:(off b i:Int)+((k+1:Nat):Int)+1=(off b i:Int)+k+2:=by omega
   rw[e3] at this;simp only;exact this
def abu (h:Φ b) {p:Int→Int}:Pot (iY b) p↔(∀g∈b.2.1,tT b p g)∧∀c∈b.2.2.2.2.1,p (cx b c)≤p (cy b c)+(sf b c).2∧p (cy b c)+(sf b c).1≤p (cx b c):=by
 constructor
 ·intro hp;refine⟨fun g hg=>?_,fun c hc=>?_⟩
  ·obtain⟨i,hi,rfl⟩:=cR.1 hg;exact(DR h (cE hi)).1 fun l hl=>hp l.1 l.2.1 l.2.2 (oR.2 (.inl ⟨i,_,cE hi,hl⟩))
  ·have a1:=hp _ _ _ (oR.2 (.inr ⟨c,hc,.inl rfl⟩));have a2:=hp _ _ _ (oR.2 (.inr ⟨c,hc,.inr rfl⟩));omega
 ·rintro⟨hg,hc⟩ u v m hl;rcases oR.1 hl with⟨i,g,hig,hl⟩|⟨c,hcm,hl⟩
  ·exact(DR h hig).2 (hg g (cN hig)) (u,v,m) hl
  ·obtain⟨a1,a2⟩:=hc c hcm;rcases hl with hl|hl
   ·obtain⟨rfl,rfl,rfl⟩:u=cy b c∧v=cx b c∧m=(sf b c).2:=by simpa using hl
    exact a1
   ·obtain⟨rfl,rfl,rfl⟩:u=cx b c∧v=cy b c∧m = -(sf b c).1:=by simpa using hl
    omega
end
def afP:List Int→Int
 |[]=>0
 |[a]=>a
 |a::b::t=>max a (afP (b::t))
def Ti:∀{l:List Int},l≠[]→(∀a∈l,a≤afP l)∧afP l∈l
 |[],h=>absurd rfl h
 |[a],_=>⟨fun x hx=>by rw[cO] at hx; rw[hx]; exact dR _,by simp[afP]⟩
 |a::b::t,_=>by
  obtain⟨h1,h2⟩:=Ti (l:=b::t) (by simp);have e:afP (a::b::t)=max a (afP (b::t)):=rfl;rw[e];constructor
  ·intro x hx;rcases cM.1 hx with rfl|hx
   ·omega
   ·have:=h1 x hx; omega
  ·rcases Int.le_total a (afP (b::t)) with h|h
   ·rw[Int.max_eq_right h]; exact dk _ h2
   ·rw[Int.max_eq_left h]; exact List.mem_cons_self
section
variable {b:ę}
def abr (b:ę) (f:Int→Int→Int) (z:Int) (v:Int):Int:=if v=0 then z else match (Ú b)[(v-1).toNat]? with|some n=>f n.1 n.2|none=>0
def IP (f:Int→Int→Int) (z:Int):abr b f z 0=z:=by unfold abr; rw[if_pos rfl]
def SH (h:Φ b) (f:Int→Int→Int) (z:Int) {g:Ā} (hg:g∈b.2.1) {d:Int} (hd:d∈è b g):abr b f z (gY b g.1 d)=f g.1 d:=by
 obtain⟨i,hi,rfl⟩:=List.mem_iff_getElem.1 hg;obtain⟨k,hk,rfl⟩:=List.mem_iff_getElem.1 hd;have hgi:=List.getElem?_eq_getElem hi;have hdk:=List.getElem?_eq_getElem hk;rw[qk h hgi hdk];unfold abr
 have e:((off b i:Int)+k+1-1).toNat=off b i+k:=by omega
 rw[if_neg (by omega),e,aeu hgi hdk]
def U5 (b:ę) (l:List Int) (d:Int):Int:=match l with|[]=>0|x::_=>gY b x d
def Y0 (l:List Int) (d:Int):atP (Ú b) l d=U5 b l d:=by
 unfold atP U5 gY
 cases l<;>rfl
def acW (c:Cmp):cx b c=U5 b (ÿ c.2.2.1 c.2.2.2.1) c.2.1:=Y0 _ _
def acV (c:Cmp):cy b c=U5 b (ÿ c.2.2.2.1 c.2.2.1) c.2.1:=Y0 _ _
def Yr (h:Φ b) {c:Cmp} (hc:c∈b.2.2.2.2.1) {x:Int} (hx:x∈ÿ c.2.2.1 c.2.2.2.1∨x∈ÿ c.2.2.2.1 c.2.2.1):∃g∈b.2.1,g.1=x∧c.2.1∈è b g:=by
 have hx':(x∈c.2.2.1∧x∉c.2.2.2.1)∨(x∈c.2.2.2.1∧x∉c.2.2.1):=by
  rcases hx with hx|hx
  ·exact .inl (nA.1 hx)
  ·exact .inr (nA.1 hx)
 have hm:x∈c.2.2.1++c.2.2.2.1:=by rw[cJ]; exact hx'.imp (·.1) (·.1)
 obtain⟨⟨g,hg,_⟩,_⟩:=h.pile hc hm;obtain⟨hgm,hid⟩:=iZ hg;refine⟨g,hgm,hid,gX.2 (.inr (.inl ⟨c,hc,?_,rfl⟩))⟩;rw[hid];intro he;rw[gz,eJ,eJ] at he;rcases hx' with⟨a,e⟩|⟨a,e⟩
 ·exact e (he.1 a)
 ·exact e (he.2 a)
def fill (b:ę) (p:Int→Int) (g:Ā) (d:Int):Int:=afP ((è b g).map fun e=>if d≤e then p (gY b g.1 e) else p (gY b g.1 e)-jH b g e d)
def Lh {p:Int→Int} {g:Ā} (d:Int):(∀e∈è b g,(if d≤e then p (gY b g.1 e) else p (gY b g.1 e)-jH b g e d)≤fill b p g d)∧∃e∈è b g,fill b p g d=if d≤e then p (gY b g.1 e) else p (gY b g.1 e)-jH b g e d:=by
 have hne:((è b g).map fun e=>if d≤e then p (gY b g.1 e) else p (gY b g.1 e)-jH b g e d)≠[]:=by
  intro h;have:=List.map_eq_nil_iff.1 h;have h2:=ru (b:=b) g;rw[this] at h2;cases h2
 obtain⟨h1,h2⟩:=Ti hne;refine⟨fun e he=>h1 _ (dj.2 ⟨e,he,rfl⟩),?_⟩;obtain⟨e,he,hx⟩:=dj.1 h2;exact⟨e,he,hx.symm⟩
def YI (h:Φ b) {p:Int→Int} {g:Ā} (hg:g∈b.2.1) (hf:tT b p g) {d:Int} (hd:d∈è b g):fill b p g d=p (gY b g.1 d):=by
 obtain⟨h1,e,he,h2⟩:=Lh (b:=b) (p:=p) (g:=g) d;have h3:=h1 d hd;rw[if_pos (dR _)] at h3
 have h4:fill b p g d≤p (gY b g.1 d):=by
  rw[h2]
  split
  ·rename_i hde;exact hf.down d e hd he hde
  ·rename_i hde;have:=hf.loss e d he hd (by omega);omega
 omega
def UJ (h:Φ b) {p:Int→Int} {g:Ā} (hg:g∈b.2.1) (hf:tT b p g) {d e:Int} (h0:g.2.1≤d) (hde:d≤e):fill b p g e≤fill b p g d∧fill b p g d≤fill b p g e+jH b g d e:=by
 obtain⟨a1,x,hx,a2⟩:=Lh (b:=b) (p:=p) (g:=g) d;obtain⟨b1,y,hy,b2⟩:=Lh (b:=b) (p:=p) (g:=g) e;have hm:=(h.gaugeR hg).2.2.2.2.1;have hl:=BC h hg (f:=d) (t:=e) (by omega);have dx:=h.day hg hx;have dy:=h.day hg hy;constructor
 ·have q:=a1 y hy;rw[b2]
  by_cases c1:e≤y
  ·rw[if_pos c1];rw[if_pos (by omega)] at q;exact q
  ·rw[if_neg c1]
   by_cases c2:d≤y
   ·rw[if_pos c2] at q;have:=BC h hg (f:=y) (t:=e) dy.2.1;omega
   ·rw[if_neg c2] at q;have:=Ie h g (f:=y) (t:=d) (u:=e) (by omega) hde;omega
 ·have q:=b1 x hx;rw[a2]
  by_cases c1:d≤x
  ·rw[if_pos c1]
   by_cases c2:e≤x
   ·rw[if_pos c2] at q;omega
   ·rw[if_neg c2] at q;have:=Ie h g (f:=d) (t:=x) (u:=e) c1 (by omega);have:=BC h hg (f:=d) (t:=x) (by omega);omega
  ·rw[if_neg c1];rw[if_neg (by omega)] at q;have:=Ie h g (f:=x) (t:=d) (u:=e) (by omega) hde;omega
end
section
variable {b:ę} {c:Cmp}
def aau {b':ę} (h':Φ b') {l:List Int} {day:Int} (f:Int→Int→Int) (z:Int) (hl:∀x∈l,∃g∈b'.2.1,g.1=x∧day∈è b' g):abr b' f z (U5 b' l day)=match l with|[]=>z|x::_=>f x day:=by
 unfold U5
 cases l with
 |nil=>exact IP f z
 |cons x t =>
  obtain⟨g,hg,rfl,hd⟩:=hl x (by simp);exact SH h' f z hg hd
end
section
variable {L:List Lk} {N:Nat}
def Wl.app {u v:Int} {vs:List Int} {d:Int} (h1:Wl L (fun x=>x=u) vs v d) {ws:List Int} {w e:Int} (h2:Wl L (fun x=>x=v) ws w e):∃xs,Wl L (fun x=>x=u) xs w (d+e):=by
 induction h2 with
 |nil h=>subst h; exact⟨vs,by rw[gE]; exact h1⟩
 |step hw hx ih =>
  obtain⟨xs,hi⟩:=ih;have:=Wl.step hi hx;rw[Int.add_assoc] at this;exact⟨_,this⟩
def dst (L:List Lk) (N:Nat) (s t:Int):Int:=gv (yh L N s) t
def acO (h:jm L N) (ht:Xu L N) (ho:kF L N=true) {s t:Int} (hs:0≤s∧s<N) (hv:0≤t∧t<N):dst L N s t≤9007199254740992:=by
 have h2:=h.n60;obtain⟨p,hp⟩:=(kE h.links (by omega)).1 ho;obtain⟨vs,d,hw,hd⟩:=ht.from' s hs.1 hs.2;obtain⟨ws,e,hx,he⟩:=ht.to t hv.1 hv.2;obtain⟨xs,hy⟩:=Wl.app hw hx;have:=(BL h.links (by omega) hp hs).low t xs _ (afM.2 hy);unfold dst;omega
def dst_ne (h:jm L N) (ht:Xu L N) (ho:kF L N=true) {s t:Int} (hs:0≤s∧s<N) (hv:0≤t∧t<N):dst L N s t≠ş:=by
 have:=acO h ht ho hs hv;unfold ş;omega
def acN (h:jm L N) (ht:Xu L N) (ho:kF L N=true) {s t:Int} (hs:0≤s∧s<N) (hv:0≤t∧t<N) {p:Int→Int} (hp:Pot L p):p t-p s≤dst L N s t:=by
 have h2:=h.n60;obtain⟨vs,hw⟩:=(BL h.links (by omega) hp hs).att t hv.1 hv.2 (dst_ne h ht ho hs hv);obtain⟨u,hu,hx⟩:=(afM.1 hw).pot hp;subst hu;exact hx
def acM (h:jm L N) (ht:Xu L N) (ho:kF L N=true) {x y:Int} (hx:0≤x∧x<N) (hy:0≤y∧y<N) : -(dst L N x y)≤dst L N y x:=by
 have h2:=h.n60;obtain⟨p,hp⟩:=(kE h.links (by omega)).1 ho;have a1:=acN h ht ho hx hy hp;have a2:=acN h ht ho hy hx hp;omega
def dst_bd (h:jm L N) (ht:Xu L N) (ho:kF L N=true) {s t:Int} (hs:0≤s∧s<N) (hv:0≤t∧t<N) : -9007199254740992≤dst L N s t∧dst L N s t≤9007199254740992:=by
 have a1:=acO h ht ho hs hv;have a2:=acO h ht ho hv hs;have a3:=acM h ht ho hv hs;omega
end
def abc (f:Int→Int→Int) (z:Int) (l:List Int) (d:Int):Int:=match l with|[]=>z|x::_=>f x d
def Z9 (f:Int→Int→Int) (z:Int) (c:Cmp):Int:=abc f z (ÿ c.2.2.1 c.2.2.2.1) c.2.1-abc f z (ÿ c.2.2.2.1 c.2.2.1) c.2.1
structure ahq (b:ę) (f:Int→Int→Int) (z:Int) (g:Ā):Prop where
 hi:f g.1 g.2.1≤z+(g.2.2.1+g.2.2.2.1.2)
 lo:z+(g.2.2.1+g.2.2.2.1.1)≤f g.1 g.2.1
 down:∀d e,g.2.1≤d→d≤e→f g.1 e≤f g.1 d
 loss:∀d e,g.2.1≤d→d≤e→f g.1 d≤f g.1 e+jH b g d e
structure ahp (b:ę) (f:Int→Int→Int) (z:Int):Prop where
 gauge:∀g∈b.2.1,ahq b f z g
 cmp:∀c∈b.2.2.2.2.1,(sf b c).1≤Z9 f z c∧Z9 f z c≤(sf b c).2
def acE {b:ę} (h:Φ b) {p:Int→Int} (hg:∀g∈b.2.1,tT b p g):∃f:Int→Int→Int,(∀g∈b.2.1,ahq b f (p 0) g)∧∀g∈b.2.1,∀d∈è b g,f g.1 d=p (gY b g.1 d):=by
 let f:Int→Int→Int:=fun id d=>match ċ b id with|some g=>fill b p g d|none=>0
 have hfv:∀g∈b.2.1,∀d,f g.1 d=fill b p g d:=fun g hgm d=>by
  show(match ċ b g.1 with|some g=>fill b p g d|none=>0)=_;rw[vl h.ids hgm]
 refine⟨f,fun g hgm=>?_,fun g hgm d hd=>by rw[hfv g hgm]; exact YI h hgm (hg g hgm) hd⟩;have gf:=hg g hgm
 have e0:f g.1 g.2.1=p (gY b g.1 g.2.1):=by rw[hfv g hgm]; exact YI h hgm gf (ru g)
 refine⟨by rw[e0]; exact gf.hi,by rw[e0]; exact gf.lo,fun d e h0 hde=>?_,fun d e h0 hde=>?_⟩
 ·rw[hfv g hgm,hfv g hgm];exact(UJ h hgm gf h0 hde).1
 ·rw[hfv g hgm,hfv g hgm];exact(UJ h hgm gf h0 hde).2
def Su {b:ę} {f:Int→Int→Int} {p:Int→Int} (hm:∀g∈b.2.1,∀d∈è b g,f g.1 d=p (gY b g.1 d)) {l:List Int} {day:Int} (hl:∀x∈l,∃g∈b.2.1,g.1=x∧day∈è b g):p (U5 b l day)=abc f (p 0) l day:=by
 cases l with
 |nil=>rfl
 |cons x t =>
  obtain⟨g,q1,rfl,q3⟩:=hl x (by simp);exact(hm g q1 day q3).symm
def acR {b:ę} {f:Int→Int→Int} {p:Int→Int} (hm:∀g∈b.2.1,∀d∈è b g,f g.1 d=p (gY b g.1 d)) {c:Cmp}
 (hl:∀x,x∈ÿ c.2.2.1 c.2.2.2.1∨x∈ÿ c.2.2.2.1 c.2.2.1→∃g∈b.2.1,g.1=x∧c.2.1∈è b g):p (cx b c)-p (cy b c)=Z9 f (p 0) c:=by
 unfold Z9;rw[acW,acV,Su hm (fun x hx=>hl x (.inl hx)),Su hm (fun x hx=>hl x (.inr hx))]
def NV {b:ę} (h:Φ b) (f:Int→Int→Int) (z:Int) {l:List Int} {day:Int} (hl:∀x∈l,∃g∈b.2.1,g.1=x∧day∈è b g):abr b f z (U5 b l day)=abc f z l day:=by
 rw[aau h f z hl];unfold abc
 cases l<;>rfl
def abq {b:ę} (h:Φ b) {f:Int→Int→Int} {z:Int} {c:Cmp} (hl:∀x,x∈ÿ c.2.2.1 c.2.2.2.1∨x∈ÿ c.2.2.2.1 c.2.2.1→∃g∈b.2.1,g.1=x∧c.2.1∈è b g):abr b f z (cx b c)-abr b f z (cy b c)=Z9 f z c:=by
 unfold Z9;rw[acW,acV,NV h f z (fun x hx=>hl x (.inl hx)),NV h f z (fun x hx=>hl x (.inr hx))]
def Zx {b:ę} (h:Φ b) {f:Int→Int→Int} {z:Int} {g:Ā} (hg:g∈b.2.1) (hh:ahq b f z g):tT b (abr b f z) g:=by
 have q:∀d∈è b g,abr b f z (gY b g.1 d)=f g.1 d:=fun d hd=>SH h f z hg hd;have e0:=q g.2.1 (ru g);refine⟨?_,?_,fun d e hd he hde=>?_,fun d e hd he hde=>?_⟩
 ·rw[e0,IP]; exact hh.hi
 ·rw[e0,IP]; exact hh.lo
 ·rw[q d hd,q e he]; exact hh.down d e (h.day hg hd).1 hde
 ·rw[q d hd,q e he]; exact hh.loss d e (h.day hg hd).1 hde
section
variable {b:ę} {c:Cmp}
def aen (h:Φ b) {p:Int→Int} (hp:Pot (iY b) p):∃f,ahp b f (p 0)∧∀g∈b.2.1,∀d∈è b g,f g.1 d=p (gY b g.1 d):=by
 obtain⟨hg,hc⟩:=(abu h).1 hp;obtain⟨f,hf,hm⟩:=acE h hg;refine⟨f,⟨hf,fun c hcm=>?_⟩,hm⟩;have:=acR hm (c:=c) (fun x hx=>Yr h hcm hx);have:=hc c hcm;omega
def aeQ (h:Φ b) {f:Int→Int→Int} {z:Int} (hh:ahp b f z):Pot (iY b) (abr b f z):=by
 refine(abu h).2 ⟨fun g hg=>Zx h hg (hh.gauge g hg),fun c hc=>?_⟩;have:=abq (f:=f) (z:=z) h (c:=c) (fun x hx=>Yr h hc hx);have:=hh.cmp c hc;omega
def Ci (h:Φ b):kF (iY b) ((Ú b).length+1)=true↔∃f z,ahp b f z:=by
 have:=h.sys.n60;rw[kE h.sys.links (by omega)];constructor
 ·rintro⟨p,hp⟩;obtain⟨f,hf,_⟩:=aen h hp;exact⟨f,_,hf⟩
 ·rintro⟨f,z,hh⟩;exact⟨_,aeQ h hh⟩
end
def aeX {m:ń} (h:Φ m.1) (p:Cmp→Bool):(acH m p).1=less m.1 ((m.1.2.2.2.2.1.filter fun c=>!p c).map fun c=>c.1):=by
 unfold acH less;dsimp only;congr 5;refine List.filter_congr fun c hc=>?_;rw[Bool.eq_iff_iff,Bool.not_eq_true',Bool.eq_false_iff,ne_eq,List.contains_iff_mem,List.mem_map];constructor
 ·rintro hp ⟨c',hc',e⟩;obtain⟨h1,h2⟩:=dG.1 hc'
  have:c'=c:=by
   obtain⟨i,hi,rfl⟩:=cR.1 h1;obtain⟨j,hj,rfl⟩:=cR.1 hc;have hd:=dm.1 h.distinct;rcases Nat.lt_trichotomy i j with hij|hij|hij
   ·exact absurd e (hd i j hi hj hij)
   ·subst hij; rfl
   ·exact absurd e.symm (hd j i hj hi hij)
  rw[this,hp] at h2;cases h2
 ·intro hn
  cases hp:p c with
  |true=>rfl
  |false=>exact absurd ⟨c,dG.2 ⟨hc,by simp[hp]⟩,rfl⟩ hn
def MOk.few {m:ń} (h:MOk m) (p:Cmp→Bool):MOk (acH m p):=by
 refine⟨?_,h.n4,h.mixE,h.prod⟩;rw[aeX h.good];exact h.good.less _
def aeP {b b':ę} (h1:b'.1=b.1) (h2:b'.2.1=b.2.1) (h3:b'.2.2.1=b.2.2.1) (h4:b'.2.2.2.1=b.2.2.2.1) (h5:∀c∈b'.2.2.2.2.1,c∈b.2.2.2.2.1) {f:Int→Int→Int} {z:Int} (hh:ahp b f z):ahp b' f z:=by
 have hl:∀g d e,jH b' g d e=jH b g d e:=fun g d e=>by unfold jH g9; rw[h3,h4]
 have hs:∀c,sf b' c=sf b c:=fun c=>by
  unfold sf xU rX rateK iE;rw[h1,h2]
 refine⟨fun g hg=>?_,fun c hc=>by rw[hs]; exact hh.cmp c (h5 c hc)⟩;have:=hh.gauge g (by rw[←h2]; exact hg);exact⟨this.hi,this.lo,this.down,fun d e a b=>by rw[hl]; exact this.loss d e a b⟩
def aeZ {m m':ń} {w:Way} (h:MOk m) (h':MOk m') (hw:Ŋ m.2 w) (e1:m'.1.1=m.1.1) (e2:m'.1.2.1=m.1.2.1) (e3:m'.1.2.2.1=m.1.2.2.1) (e4:m'.1.2.2.2.1=m.1.2.2.2.1) (e5:∀c∈m'.1.2.2.2.2.1,c∈m.1.2.2.2.2.1) (e7:m'.2=m.2)
 (he:lF m w=true):lF m' w=true:=by
 have hw':Ŋ m'.2 w:=e7▸hw;obtain⟨f,z,hh⟩:=(Ci (rD h hw)).1 he;refine(Ci (rD h' hw')).2 ⟨f,z,aeP ?_ ?_ ?_ ?_ ?_ hh⟩
 ·exact e1
 ·exact e2
 ·show m'.1.2.2.1.map _=m.1.2.2.1.map _;rw[e3,e7]
 ·show m'.1.2.2.2.1.map _=m.1.2.2.2.1.map _;rw[e4,e7]
 ·intro c hc;obtain⟨c0,h0,rfl⟩:=dj.1 (show c∈m'.1.2.2.2.2.1.map (UT m' w) from hc)
  have:UT m' w c0=UT m w c0:=by unfold UT ks; rw[e7]
  rw[this];exact dj.2 ⟨c0,e5 c0 h0,rfl⟩
def ad7 {m:ń} (h:MOk m) {p q:Cmp→Bool} (hpq:∀c∈m.1.2.2.2.2.1,p c=true→q c=true) (hs:Ō (acH m q)=true):Ō (acH m p)=true:=by
 unfold Ō at hs ⊢;obtain⟨w,hw,he⟩:=List.any_eq_true.1 hs;refine List.any_eq_true.2 ⟨w,hw,?_⟩
 exact aeZ (h.few q) (h.few p) (mM.1 hw) rfl rfl rfl rfl (fun c hc=>by
  obtain⟨h1,h2⟩:=dG.1 (show c∈m.1.2.2.2.2.1.filter p from hc)
  exact dG.2 ⟨h1,hpq c h1 h2⟩) rfl he
def agU {m:ń} {p:Cmp→Bool} (hp:∀c∈m.1.2.2.2.2.1,p c=true):acH m p=m:=by
 unfold acH;rw[List.filter_eq_self.2 hp]
section
variable {m:ń} {ρ:Type}
def AA (h:MOk m) (ids:List Int):ô (κ m ids)=some (K9 (κ m ids)):=rt (h.few _)
def tU (m:ń) (ids:List Int):Bool×Int:=if ė m≠0 then(false,ė m) else(Ō (κ m ids),0)
def ym (hs:In m.1) (hn:m.2.length≤1000) {ids:List Int} (hi:ids.length≤1000000):Ū m ids=some (tU m ids):=by
 unfold Ū uw tU;rw[jl hs hn,À]
 by_cases hc:ė m=0
 ·have h:=(Ģ m).1 hc;rw[Î (by simp[ine,hc]),if_neg (by simp[hc]),PC hs.size.compares hi,À,AA h ids,À,pH]
 ·rw[Ù (by simp[ine,hc]),if_pos hc]
def xQ (b:ę) (id d:Int):Int:=if !O0 d then 1 else if (ċ b id).isNone then 5 else 0
def Ra (hn:m.1.2.1.length≤1000) (id d:Int):tF m id d=some (xQ m.1 id d):=by
 unfold tF Jp xQ
 by_cases h:O0 d=true
 ·have h':=h;simp only[O0,inP,cG,decide_eq_true_eq] at h';rw[h,Î (by simp[ilt]; omega),Î (by simp[igt]; omega),if_neg (by simp)];refine eI (ũ m.1.2.1 (fun g=>g.1==id) (fun z=>ifb (!(ige z (0:Int))) (some 5) (some 0)) (some 0) (some 5) (fun j=>Î (by simp[ige]) _ _) (fun i a hi ha kn=>?_) (fun kn=>?_)) ?_
  ·try dsimp only
   unfold qB;rw[Ò hi,É ha,Ë hi (by omega),Č]
  ·try dsimp only
   unfold qB;rw[â]
  ·unfold ċ
   cases hf:m.1.2.1.find? (fun g=>g.1==id) with
   |none =>
    rw[if_neg]
    ·rfl
    rw[dg];rintro⟨g,hg,e⟩;exact absurd e (by simpa using(d9.1 hf) g hg)
   |some g =>
    rw[if_pos]
    ·rfl
    have hp:=fV hf;exact dg.2 ⟨g,fj hf,hp⟩
 ·have h':=h;simp only[O0,inP,cG,decide_eq_true_eq,not_and,Int.not_le] at h';rw[if_pos (by simp[h])];rw[Č,Č];simp only[ilt,igt,decide_eq_true_eq]
  split
  ·rfl
  ·rw[if_pos (by have:=h' (by omega); omega)]
def LN (label:Int) (c:Cmp):Bool:=(ÿ c.2.2.1 c.2.2.2.1).contains label||(ÿ c.2.2.2.1 c.2.2.1).contains label
def Gc (m:ń) (label:Int):Bool×Int:=if ė m≠0 then(false,ė m) else if xQ m.1 label 0≠0 then(false,xQ m.1 label 0) else(!Ō (acH m (LN label)),0)
def Vd (hs:In m.1) (hn:m.2.length≤1000) (label:Int):oA m label=some (Gc m label):=by
 unfold oA ut Gc;rw[jl hs hn,À]
 by_cases hc:ė m=0
 ·have h:=(Ģ m).1 hc;have hC:=h.good.nC;rw[Î (by simp[ine,hc]),if_neg (by simp[hc]),Ra hs.size.gauges,À]
  by_cases hk:xQ m.1 label 0=0
  ·rw[Î (by simp[ine,hk]),if_neg (by simp[hk]),ð (Ó (by omega))]
   have hcan:∀c∈m.1.2.2.2.2.1,oU c.2.2.1 c.2.2.2.1=some (ÿ c.2.2.1 c.2.2.2.1,ÿ c.2.2.2.1 c.2.2.1,0)∧(ÿ c.2.2.1 c.2.2.2.1).length≤1000000∧(ÿ c.2.2.2.1 c.2.2.1).length≤1000000:=fun c hc=>by
    obtain⟨p1,p2⟩:=h.good.size.piles c hc;have hnum:=(kG c).1 (h.good.nums hc);have l1:=DI c.2.2.1 c.2.2.2.1;have l2:=DI c.2.2.2.1 c.2.2.1;refine⟨?_,by omega,by omega⟩;rw[adQ (by omega) (by omega),Xx,hnum.2.2.2.2.2.1,hnum.2.2.2.2.2.2]; rfl
   have hK:∀l,l=m.1.2.2.2.2.1.filter (LN label)→Ã (ô ((m.1.1,m.1.2.1,m.1.2.2.1,m.1.2.2.2.1,l,m.1.2.2.2.2.2),m.2)) (fun r24=>some ((!r24.2),(0:Int)))=some (!Ō (acH m (LN label)),0):=fun l hl=>by
    subst hl;have:=rt (h.few (LN label));unfold acH at this ⊢;rw[this,À,pH]
   refine eI (W8 (a:=m.1.2.2.2.2.1) (LN label) (K:=fun l=>Ã (ô ((m.1.1,m.1.2.1,m.1.2.2.1,m.1.2.2.2.1,l,m.1.2.2.2.2.2),m.2)) fun r24=>some ((!r24.2),(0:Int))) (k0:=acS zC fun l=>Ã (ô ((m.1.1,m.1.2.1,m.1.2.2.1,m.1.2.2.2.1,l,m.1.2.2.2.2.2),m.2)) fun r24=>some ((!r24.2),(0:Int)))
    (kf:=fun z9=>ifb (ieq z9 (-1:Int)) (Ã (ô m) fun r10=>some ((!r10.2),(0:Int))) (ck (z9+(1:Int)) fun n11=>Ê (fun(v25:Int×Int×List Cmp) kk29=>Α label v25.1 v25.2.1 v25.2.2 (fun u26 u27 u28=>kk29 (u26,u27,u28)) (acS zC fun l=>Ã (ô ((m.1.1,m.1.2.1,m.1.2.2.1,m.1.2.2.2.1,l,m.1.2.2.2.2.2),m.2)) fun r24=>some ((!r24.2),(0:Int)))) (z9,n11,m.1.2.2.2.2.1)))
    (F:=fun a b c kn=>Α label a b c kn (acS zC fun l=>Ã (ô ((m.1.1,m.1.2.1,m.1.2.2.1,m.1.2.2.2.1,l,m.1.2.2.2.2.2),m.2)) fun r24=>some ((!r24.2),(0:Int)))) (kend:=Ã (ô m) fun r10=>some ((!r10.2),(0:Int))) (fun i x hi hx kn=>?_) (fun kn=>?_) rfl (fun z hz=>?_) (fun i j s x hs hij hj hx hxa kn=>?_) (fun i s kn hi hs=>?_) (fun i s hi=>W9 _ _ hi)) (hK _ rfl)
   ·try dsimp only
    unfold jV;obtain⟨c1,c2,c3⟩:=hcan x (List.mem_of_getElem? hx);rw[Ò hi,Ī hi,ò hx,c1,À,ħ c2,À,ħ c3,À];unfold LN
    cases(ÿ x.2.2.1 x.2.2.2.1).contains label<;>cases(ÿ x.2.2.2.1 x.2.2.1).contains label<;>simp only[jg,é,dz,ff,Bool.or_true,Bool.or_false,if_true,cV,if_false]<;>first|rfl|rw[Ë hi (by omega)]
   ·try dsimp only
    unfold jV;rw[â]
   ·rw[Î (by simp[ieq]),Ë hz (by omega)]
   ·try dsimp only
    unfold Α;obtain⟨c1,c2,c3⟩:=hcan x hxa;have hx2:s[i]?=some s[i]:=List.getElem?_eq_getElem (by omega);rw[Ò hj,show ì s=((s.length:Nat):Int) from rfl,Ī hj,ò hx,c1,À,ħ c2,À,ħ c3,À];unfold LN
    cases(ÿ x.2.2.1 x.2.2.2.1).contains label<;>cases(ÿ x.2.2.2.1 x.2.2.1).contains label<;>simp only[jg,é,dz,ff,Bool.or_true,Bool.or_false,if_true,cV,if_false]<;>first|rw[Ë hj (by omega)]|rw[Ī (by omega),ò hx2,Ë (show i<s.length by omega) (by omega),Ë hj (by omega),cT]
   ·try dsimp only
    unfold Α;rw[â]
  ·rw[Ù (by simp[ine,hk]),if_pos hk]
 ·rw[Ù (by simp[ine,hc]),if_pos hc]
def Ii (m:ń):List Int:=m.1.2.2.2.2.1.map fun c=>c.1
def Lu (m:ń):Nat→List Int→List Int
 |0,l=>l
 |i+1,l=>Lu m i (if Ō (κ m (l.take i++l.drop (i+1))) then l else l.take i++l.drop (i+1))
def adP (m:ń):List Int×Int:=if ė m≠0 then([],ė m) else if Ō m then([],5) else(Lu m (Ii m).length (Ii m),0)
def adO (hs:In m.1) (hn:m.2.length≤1000):oB m=some (adP m):=by
 unfold oB Qb adP;rw[jl hs hn,À]
 by_cases hc:ė m=0
 ·have h:=(Ģ m).1 hc;have hC:=h.good.nC;have hm:((((m.1.1.1,m.1.1.2),m.1.2.1,m.1.2.2.1,m.1.2.2.2.1,m.1.2.2.2.2.1,m.1.2.2.2.2.2),m.2):ń)=m:=rfl;rw[Î (by simp[ine,hc]),if_neg (by simp[hc]),rt h,À,pH]
  cases Ō m with
  |true=>rfl
  |false =>
   simp only[é,cV,if_false]
   have hl:(Ii m).length=m.1.2.2.2.2.1.length:=by unfold Ii; simp
   refine eI (yC m.1.2.2.2.2.1 (fun c=>c.1) (fun z5=>ck ((Ø z5)-(1:Int)) fun n6=>Ê (fun(v14:List Int×Int) kk17=>ph m.1.1.1 m.1.1.2 m.1.2.1 m.1.2.2.1 m.1.2.2.2.1 m.1.2.2.2.2.1 m.1.2.2.2.2.2 m.2 v14.1 v14.2 (fun u15 u16=>kk17 (u15,u16)) (fun z13=>some (z13,(0:Int)))) (z5,n6)) (fun i a hi ha v kn hv=>?_) (fun v kn=>?_)) ?_
   ·try dsimp only
    unfold uz;rw[Ò hi,É ha,ð (Ó (by simp; omega)),Ë hi (by omega)]
   ·try dsimp only
    unfold uz;rw[â]
   ·show(ck ((Ø (Ii m))-(1:Int)) fun n6=>Ê _ (Ii m,n6))=_;rw[Ñ,Ô (by omega) (by omega)];refine ĕ (fun x:List Int×Int=>∃i:Nat,x.2=(i:Int)-1∧i≤x.1.length∧x.1.length≤40∧Lu m i x.1=Lu m (Ii m).length (Ii m)) (fun x=>(x.2+1).toNat) ?_ ⟨_,rfl,Nat.le_refl _,by dsimp only; omega,rfl⟩;rintro⟨l,x2⟩ ⟨i,h1,hil,hl40,hco⟩;simp only at h1 hil hl40 hco;subst h1
    cases i with
    |zero =>
     refine .inl fun kn=>?_
     try dsimp only
     unfold ph;rw[Î (by simp[ige]),←hco]; rfl
    |succ i =>
     have e0:((i+1:Nat):Int)-1=i:=by omega
     have hlen:(l.take i++l.drop (i+1)).length=l.length-1:=by simp; omega
     rw[Lu] at hco;refine .inr ⟨(if Ō (κ m (l.take i++l.drop (i+1))) then l else l.take i++l.drop (i+1),(i:Int)-1),⟨i,rfl,?_,?_,hco⟩,by simp only[e0]; omega,fun kn=>?_⟩
     ·dsimp only; split<;>omega
     ·dsimp only; split<;>omega
     ·try dsimp only
      unfold ph;rw[e0,Ù (by simp[ige]),ð (by simp[ile,ì]; omega),Ô (by omega) (by omega),ð (by simp[ile,ì]; omega),Int.toNat_natCast,show Int.toNat ((i:Int)+1)=i+1 by omega,L3 (by simp; omega) (by simp; omega),À,hm,PC (by omega) (by omega),À,AA h,À,pH,Č,Ô (by omega) (by omega),Ô (by omega) (by omega)]
      cases Ō (κ m (l.take i++l.drop (i+1)))<;>rfl
 ·rw[Ù (by simp[ine,hc]),if_pos hc]
end
def Ý:List Int→Nat→List Int
 |[],_=>[]
 |x::l,s=>if s % 2=1 then x::Ý l (s / 2) else Ý l (s / 2)
def Ly:∀{l:List Int} {s i:Nat} {x:Int},l[i]?=some x→Ý (l.take (i+1)) s=Ý (l.take i) s++if s / 2 ^ i % 2=1 then[x] else[]
 |[],_,_,_,h=>by simp at h
 |y::l,s,0,x,h=>by
  simp at h; subst h;simp[Ý]
 |y::l,s,i+1,x,h=>by
  simp only[fw] at h;have:=Ly (s:=s / 2) h;simp only[gn,Ý,this,Nat.pow_succ',←Nat.div_div_eq_div_mul]
  split<;>rfl
def mw:∀(l:List Int) (s:Nat),(Ý l s).length≤l.length
 |[],_=>cF _
 |x::l,s=>by
  have:=mw l (s / 2);unfold Ý
  split<;>simp only[cS]<;>omega
def bit_i {s i:Nat} (hs:s<9223372036854775808) (hi:i≤60):ieq (andI .i64 (hZ .i64 (s:Int) (i:Int)) (1:Int)) (1:Int)=decide (s / 2 ^ i % 2=1):=by
 have h1:hZ .i64 (s:Int) (i:Int)=((s / 2 ^ i:Nat):Int):=by
  unfold hZ;have:IntKind.i64.bits=64:=rfl;rw[this,Int.toNat_natCast,Nat.min_eq_left (by omega),Int.fdiv_eq_ediv_of_nonneg _ (Int.le_of_lt (Int.pow_pos (by decide)))];push_cast; rfl
 rw[h1];unfold andI adV
 have hb:(BitVec.ofInt 64 ((s / 2 ^ i:Nat):Int) &&& BitVec.ofInt 64 1).toNat=s / 2 ^ i % 2:=by
  rw[BitVec.toNat_and,gd,show BitVec.ofInt 64 1=1#64 from rfl,BitVec.toNat_ofNat];rw[show(1#64).toNat=1 from rfl,Nat.and_one_is_mod,Nat.mod_mod_of_dvd _ (by decide)]
 show ieq (IntKind.i64.wrap ((BitVec.ofInt 64 ((s / 2 ^ i:Nat):Int) &&& BitVec.ofInt 64 1).toNat:Int)) 1=_;have hq:s / 2 ^ i % 2<2:=Nat.mod_lt _ (by decide);rw[hb];generalize s / 2 ^ i % 2=q at hq;rw[aaK (by omega)];unfold ieq;rw[Bool.eq_iff_iff,beq_iff_eq,decide_eq_true_eq];omega
def aa0 (s x:Nat):Bool:=s &&& x==s
def sub_i {s x:Nat} (hs:s<9223372036854775808) (hx:x<9223372036854775808):ieq (Gb .i64 (s:Int) (x:Int)) (0:Int)=aa0 s x:=by
 unfold Gb adV;show ieq (IntKind.i64.wrap ((BitVec.ofInt 64 (s:Int) &&& ~~~ BitVec.ofInt 64 (x:Int)).toNat:Int)) 0=_
 have h1:(BitVec.ofInt 64 (s:Int) &&& ~~~ BitVec.ofInt 64 (x:Int)).toNat<9223372036854775808:=by
  rw[BitVec.toNat_and];refine Nat.lt_of_le_of_lt Nat.and_le_left ?_;rw[gd,BitVec.toNat_ofNat,Nat.mod_eq_of_lt (by omega)]; exact hs
 rw[aaK h1];unfold ieq aa0;rw[Bool.eq_iff_iff,beq_iff_eq,beq_iff_eq]
 have h2:(((BitVec.ofInt 64 (s:Int) &&& ~~~ BitVec.ofInt 64 (x:Int)).toNat:Nat):Int)=0↔∀i,i<64→s.testBit i=true→x.testBit i=true:=by
  rw[Int.natCast_eq_zero,←BitVec.toNat_zero (w:=64),BitVec.toNat_inj];constructor
  ·intro h i hi hsi;have:=congrArg (fun b:BitVec 64=>b.getLsbD i) h;simp only[BitVec.getLsbD_and,BitVec.getLsbD_not,gd,BitVec.getLsbD_ofNat,BitVec.getLsbD_zero,hi,decide_true,eh,hsi] at this;simpa using this
  ·intro h;apply BitVec.eq_of_getLsbD_eq;intro i hi;simp only[BitVec.getLsbD_and,BitVec.getLsbD_not,gd,BitVec.getLsbD_ofNat,BitVec.getLsbD_zero,hi,decide_true,eh]
   cases hsi:s.testBit i with
   |false=>simp
   |true=>rw[h i hi hsi]; simp
 rw[h2];constructor
 ·intro h;refine Nat.eq_of_testBit_eq fun i=>?_;rw[Nat.testBit_and]
  cases hsi:s.testBit i with
  |false=>rfl
  |true =>
   rcases cZ i 64 with hi|hi
   ·rw[h i hi hsi]; rfl
   ·have:s<2 ^ i:=dc hs (cW (by decide) (Nat.pow_le_pow_right (by decide) hi));rw[Nat.testBit_lt_two_pow this] at hsi; cases hsi
 ·intro h i _ hsi;rw[←h,Nat.testBit_and,cG] at hsi;exact hsi.2
def ad4 {s x:Nat} (h:aa0 s x=true):(s % 2=1→x % 2=1)∧aa0 (s / 2) (x / 2)=true:=by
 unfold aa0 at h ⊢;rw[beq_iff_eq] at h ⊢;constructor
 ·intro h1
  have h3:(s &&& x) % 2=1:=by rw[h]; exact h1
  exact(Nat.and_mod_two_eq_one.1 h3).2
 ·rw[←Nat.and_div_two,h]
def O4:∀{l:List Int} {s x:Nat},aa0 s x=true→∀y∈Ý l s,y∈Ý l x
 |[],_,_,_,_,h=>by cases h
 |a::l,s,x,h,y,hy=>by
  obtain⟨h1,h2⟩:=ad4 h;unfold Ý at hy ⊢;have ih:=O4 (l:=l) h2 y
  by_cases hs:s % 2=1
  ·rw[if_pos hs] at hy;rw[if_pos (h1 hs)];rcases cM.1 hy with rfl|hy
   ·simp
   ·exact dk _ (ih hy)
  ·rw[if_neg hs] at hy
   split
   ·exact dk _ (ih hy)
   ·exact ih hy
def HP:List Int→List Int→Int
 |[],[]=>0
 |[],_=>-1
 |_,[]=>1
 |x::l,y::m=>if x<y then -1 else if y<x then 1 else HP l m
def BZ (m:ń) (ids:List Int) (st:List Int×Nat×List Nat) (s:Nat):List Int×Nat×List Nat :=
 if st.1.length<(Ý ids s).length∨((Ý ids s).length=st.1.length∧0≤HP (Ý ids s) st.1) then st else
 if st.2.2.any (aa0 s) then st else if Ō (κ m (Ý ids s)) then(st.1,st.2.1,st.2.2++[s]) else(Ý ids s,s,st.2.2)
def jB (m:ń) (ids:List Int) (n:Nat):List Int×Nat×List Nat:=(List.range n).foldl (BZ m ids) (ids,2 ^ ids.length-1,[])
def Vf (m:ń) (ids:List Int):List Int×Int :=
 if ė m≠0 then([],ė m) else if 8<ids.length then([],2) else if !ids.all (fun i=>(Ii m).contains i) then([],5) else if ¬ids.Pairwise (·<·) then([],6) else
 if Ō (κ m (Ý ids (2 ^ ids.length-1))) then([],5) else(Ý ids (jB m ids (2 ^ ids.length-1)).2.1,0)
section
variable {m:ń} {ρ:Type}
def Eg {l:List Int} (hl:l.length≤60) {s:Nat} (hs:s<9223372036854775808):iB l (s:Int)=some (Ý l s):=by
 unfold iB EX;refine ġ l (fun i=>Ý (l.take i) s) _ rfl (fun i x hi hx kn=>?_) (fun kn=>?_)
 ·try dsimp only
  unfold ot;have hcl:=mw (l.take i) s
  have:(l.take i).length=i:=by rw[cY]; omega
  rw[Ò hi,É hx,ð (by simp[ile]),bit_i hs (by omega),Č,Ly hx]
  by_cases h:s / 2 ^ i % 2=1
  ·rw[if_pos (by simpa using h),if_pos h,ð (Ó (by simp; omega)),Ë hi (by omega)]
  ·rw[if_neg (by simpa using h),if_neg h,Ë hi (by omega),df]
 ·try dsimp only
  unfold ot;rw[â,List.take_length]
def aeg (hn:m.1.2.2.2.2.1.length≤1000) {ids:List Int} (hi:ids.length≤1000) (K:Int→Option ρ) (Z:Option ρ):Ê (fun(v:Int) kk=>π ids (Ø ids) m.1.2.2.2.2.1 v (fun u=>kk u) K (fun _=>Z)) 0=if ids.all (fun i=>(Ii m).contains i) then Z else K 5:=by
 have:=ũ ids (fun i=>!(Ii m).contains i) (fun _=>K 5) (K 5) Z (f:=fun v kk=>π ids (Ø ids) m.1.2.2.2.2.1 v (fun u=>kk u) K (fun _=>Z)) (fun _=>rfl) (fun i x hi' hx kn=>?_) (fun kn=>?_)
 ·rw[this,List.all_eq_not_any_not]
  cases ids.any (fun i=>!(Ii m).contains i)<;>rfl
 ·try dsimp only
  unfold π;rw[Ò hi',É hx];refine Eq.trans (ũ m.1.2.2.2.2.1 (fun c=>c.1==x) (fun z5=>ifb (!(ige z5 (0:Int))) (K (5:Int)) (ck ((i:Int)+(1:Int)) fun n6=>kn n6)) (kn ((i:Int)+1)) (K 5) (fun j=>by rw[Î (by simp[ige]),Ë hi' (by omega)]) (fun j c hj hc kn'=>?_) (fun kn'=>?_)) ?_
  ·try dsimp only
   unfold kM;rw[Ò hj,É hc,Ë hj (by omega),Č]
  ·try dsimp only
   unfold kM;rw[â]
  ·have:(Ii m).contains x=m.1.2.2.2.2.1.any fun c=>c.1==x:=by
    unfold Ii;rw[Bool.eq_iff_iff,List.contains_iff_mem,List.mem_map,List.any_eq_true];simp
   rw[this]
   cases m.1.2.2.2.2.1.any (fun c=>c.1==x)<;>rfl
 ·try dsimp only
  unfold π;rw[â]
def aef {l:List Int} (hl:l.length≤1000) (k0:Int→Option ρ) (k1:Unit→Option ρ):Ê (fun(v:Int) kk=>iQ l v (fun u=>kk u) k0 k1) 1=if l.Pairwise (·<·) then k1 () else k0 6:=by
 refine Yl (fun i a c ha hc kn=>?_) (fun n hn kn=>?_)
 ·have hi:=(List.getElem?_eq_some_iff.1 hc).1;unfold iQ
  have e:((i:Int)+1)=((i+1:Nat):Int):=by omega
  rw[e,Ò hi,É hc,Ô (by omega) (by omega),←e,Int.add_sub_cancel,É ha,Č,Ô (by omega) (by omega)];simp
 ·unfold iQ;rw[Î (by simp[ilt,Ñ]; omega)]
def Eb (h:MOk m) (ids:List Int) {w:Way} (hw:Ŋ m.2 w):Θ (κ m ids) w=some (lF (κ m ids) w):=vu (h.few _) hw
def aee (h:MOk m) {ids:List Int} (hi:ids.length≤60) {s:Nat} (hs:s<9223372036854775808) (X Z:Option ρ):Ê (fun(v:Int) kk=>iP (Œ m.2) (Ø (Œ m.2)) m.1.1.1 m.1.1.2 m.1.2.1 m.1.2.2.1 m.1.2.2.2.1 m.1.2.2.2.2.1 m.1.2.2.2.2.2 m.2 ids (s:Int) v (fun u=>kk u) (fun z=>ifb z.2 X Z) (fun _=>Z)) 0=if Ō (κ m (Ý ids s)) then X else Z:=by
 have hm:((((m.1.1.1,m.1.1.2),m.1.2.1,m.1.2.2.1,m.1.2.2.2.1,m.1.2.2.2.2.1,m.1.2.2.2.2.2),m.2):ń)=m:=rfl;have hl2:=tW h;have hcl:=mw ids s;refine ũ (Œ m.2) (lF (κ m (Ý ids s))) (fun _=>X) X Z (fun _=>rfl) (fun i x hi' hx kn=>?_) (fun kn=>?_)
 ·try dsimp only
  unfold iP;rw[Ò hi',É hx,Eg hi hs,À,hm,PC h.good.size.compares (by omega),À,Eb h _ (rC hx),À,Ë hi' (by omega),Č,Bool.not_not];rfl
 ·try dsimp only
  unfold iP;rw[â]
def aeb (h:MOk m) {ids:List Int} (hi:ids.length≤60) {s:Nat} (hs:s<9223372036854775808) {op:List Int} (ho:op.length≤1000) (k0 k1:List Int→Option ρ):Ê (fun(v:Int×List Int) kk=>Ŕ (s:Int) (Œ m.2) (Ø (Œ m.2)) ids m.1.1.1 m.1.1.2 m.1.2.1 m.1.2.2.1 m.1.2.2.2.1 m.1.2.2.2.2.1 m.1.2.2.2.2.2 m.2 v.1 v.2 (fun a b=>kk (a,b)) k0 k1) ((0:Int),op)=if Ō (κ m (Ý ids s)) then k0 (op++[(s:Int)]) else k1 op:=by
 have hm:((((m.1.1.1,m.1.1.2),m.1.2.1,m.1.2.2.1,m.1.2.2.2.1,m.1.2.2.2.2.1,m.1.2.2.2.2.2),m.2):ń)=m:=rfl;have hl2:=tW h;have hcl:=mw ids s;refine KN (Œ m.2) (fun _=>op) _ (fun i=>∀w∈(Œ m.2).take i,lF (κ m (Ý ids s)) w=false) rfl (fun w hw=>by simp at hw) (fun i x hi' hx hp kn=>?_) (fun hp kn=>?_)
 ·try dsimp only
  unfold Ŕ;rw[Ò hi',É hx,Eg hi hs,À,hm,PC h.good.size.compares (by omega),À,Eb h _ (rC hx),À,Ë hi' (by omega),ð (Ó (by simp; omega)),Č,Bool.not_not]
  cases hx2:lF (κ m (Ý ids s)) x with
  |true =>
   refine .inl ?_;have:Ō (κ m (Ý ids s))=true:=dg.2 ⟨x,cN hx,hx2⟩;rw[this]; rfl
  |false =>
   refine .inr ⟨fun w hw=>?_,rfl⟩;rw[take_succ hx] at hw;rcases cJ.1 hw with hw|hw
   ·exact hp w hw
   ·rw[cO.1 hw]; exact hx2
 ·rw[fF] at hp
  try dsimp only
  unfold Ŕ
  have:Ō (κ m (Ý ids s))=false:=dM.2 fun w hw=>by rw[show lF (κ m (Ý ids s)) w=false from hp w hw]; simp
  rw[â,this]; rfl
def aec {s:Nat} (hs:s<9223372036854775808) {op:List Nat} (ho:op.length≤1000) (hop:∀x∈op,x<9223372036854775808) (X Z:Option ρ):Ê (fun(v:Int) kk=>ŕ (s:Int) (Ø (op.map fun(x:Nat)=>(x:Int))) (op.map fun(x:Nat)=>(x:Int)) v (fun u=>kk u) (fun _=>X) (fun _=>Z)) 0=if op.any (aa0 s) then X else Z:=by
 refine ũ op (aa0 s) (fun _=>X) X Z (fun _=>rfl) (fun i x hi hx kn=>?_) (fun kn=>?_)
 ·try dsimp only
  unfold ŕ
  have hx':(op.map fun(x:Nat)=>(x:Int))[i]?=some (x:Int):=by rw[eD,hx]; rfl
  have hi':i<(op.map fun(x:Nat)=>(x:Int)).length:=by simpa using hi
  rw[Ò hi',Ī hi',ò hx',sub_i hs (hop x (cN hx)),Ë hi (by omega),Č]
 ·try dsimp only
  unfold ŕ;rw[Ñ,Î (by simp[ilt])]
def agI {l m:List Int} (h:l.length=m.length) (hp:∀(i:Nat) (x y:Int),l[i]?=some x→m[i]?=some y→x=y):HP l m=0:=by
 induction l generalizing m with
 |nil=>cases m with|nil=>rfl|cons _ _=>cases h
 |cons x l ih =>
  cases m with
  |nil=>cases h
  |cons y m =>
   have e:=hp 0 x y rfl rfl;subst e;rw[HP,if_neg (by omega),if_neg (by omega)];exact ih (by simpa using h) fun i a b ha hb=>hp (i+1) a b ha hb
def lex_at {l m:List Int} {i:Nat} {x y:Int} (hx:l[i]?=some x) (hy:m[i]?=some y) (hp:∀(j:Nat) (a b:Int),j<i→l[j]?=some a→m[j]?=some b→a=b) (hne:x≠y):HP l m=if x<y then -1 else 1:=by
 induction l generalizing m i with
 |nil=>simp at hx
 |cons a l ih =>
  cases m with
  |nil=>simp at hy
  |cons b m =>
   cases i with
   |zero =>
    simp at hx hy; subst hx hy;rw[HP]
    split
    ·rfl
    ·rw[if_pos (by omega)]
   |succ i =>
    have e:=hp 0 a b (by omega) rfl rfl;subst e;rw[HP,if_neg (by omega),if_neg (by omega)];exact ih (by simpa using hx) (by simpa using hy) fun j a b hj ha hb=>hp (j+1) a b (by omega) ha hb
def aed {l k:List Int} (h:k.length=l.length) (hl:l.length≤1000) (X Y:Option ρ):Ê (fun(v:Int) kk=>Ŵ l k (Ø k) v (fun u=>kk u) (fun z=>ifb (ige z (0:Int)) X Y) (fun _=>X)) 0=if 0≤HP k l then X else Y:=by
 have:=ĕ (r:=if 0≤HP k l then X else Y) (f:=fun v kk=>Ŵ l k (Ø k) v (fun u=>kk u) (fun z=>ifb (ige z (0:Int)) X Y) (fun _=>X)) (x:=(0:Int)) (fun x=>∃i:Nat,x=i∧i≤k.length∧∀(j:Nat) (a b:Int),j<i→k[j]?=some a→l[j]?=some b→a=b) (fun x=>k.length-x.toNat) ?_ ⟨0,rfl,dQ _,fun j a b hj=>by omega⟩
 ·exact this
 ·rintro x ⟨i,rfl,hi,hp⟩;rcases cZ i k.length with hlt|hge
  ·have hx:k[i]?=some k[i]:=cE hlt;have hy:l[i]?=some l[i]:=cE (by omega)
   have hf:∀kn,Ŵ l k (Ø k) (i:Int) kn (fun z=>ifb (ige z (0:Int)) X Y) (fun _=>X)=if k[i]=l[i] then kn ((i:Int)+1) else if k[i]<l[i] then Y else X:=fun kn=>by
    unfold Ŵ;rw[Ò hlt,É hx,Î (by simp[ige,Ñ]; omega),É hy,ac2,À,Ë hlt (by omega)]
    by_cases h1:k[i]<l[i]
    ·rw[if_pos h1,if_neg (by omega),if_pos h1]; rfl
    ·rw[if_neg h1]
     by_cases h2:l[i]<k[i]
     ·rw[if_pos h2,if_neg (by omega),if_neg h1]; rfl
     ·rw[if_neg h2,if_pos (by omega)]; rfl
   by_cases he:k[i]=l[i]
   ·refine .inr ⟨(i:Int)+1,⟨i+1,by simp,hlt,fun j a b hj ha hb=>?_⟩,by omega,fun kn=>by rw[hf,if_pos he]⟩;rcases cZ j i with h1|h1
    ·exact hp j a b h1 ha hb
    ·have:j=i:=by omega
     subst this;rw[hx] at ha; rw[hy] at hb;cases ha; cases hb;exact he
   ·refine .inl fun kn=>?_;rw[hf,if_neg he,lex_at hx hy hp he]
    by_cases h1:k[i]<l[i]
    ·rw[if_pos h1,if_pos h1]; rfl
    ·rw[if_neg h1,if_neg h1]; rfl
  ·refine .inl fun kn=>?_
   have:i=k.length:=by omega
   subst this;unfold Ŵ;rw[â,agI h fun j a b ha hb=>hp j a b (List.getElem?_eq_some_iff.1 ha).1 ha hb];rfl
abbrev stI (st:List Int×Nat×List Nat) (n:Nat):List Int×Int×Int×List Int:=(st.1,(st.2.1:Int),(n:Int),st.2.2.map fun(x:Nat)=>(x:Int))
def Zp (h:MOk m) {ids:List Int} (hi:ids.length≤8) {n N:Nat} (hn:n<N) (hN:N≤256) {st:List Int×Nat×List Nat} (h1:st.1.length≤8) (ho:st.2.2.length≤n) (hop:∀x∈st.2.2,x<n) (kn:List Int→Int→Int→List Int→Option ρ) (k0:Int×List Int→Option ρ) :
 ŵ (Œ m.2) (N:Int) ids m.1.1.1 m.1.1.2 m.1.2.1 m.1.2.2.1 m.1.2.2.2.1 m.1.2.2.2.2.1 m.1.2.2.2.2.2 m.2 (stI st n).1 (stI st n).2.1 (stI st n).2.2.1 (stI st n).2.2.2 kn k0=kn (stI (BZ m ids st n) (n+1)).1 (stI (BZ m ids st n) (n+1)).2.1 (stI (BZ m ids st n) (n+1)).2.2.1 (stI (BZ m ids st n) (n+1)).2.2.2:=by
 have hcl:=mw ids n;dsimp only;unfold ŵ
 have hop':∀x∈st.2.2,x<9223372036854775808:=fun x hx=>by have:=hop x hx; omega
 have ho':(st.2.2.map fun(x:Nat)=>(x:Int)).length≤1000:=by rw[dE]; omega
 have e1:∀f:Int→Option ρ,ck ((n:Int)+(1:Int)) f=f ((n+1:Nat):Int):=fun f=>by rw[Ô (by omega) (by omega)]; simp
 rw[Ù (by simp[ilt]; omega),Eg (by omega) (by omega),À];unfold BZ
 by_cases hgt:st.1.length<(Ý ids n).length
 ·rw[Ù (by simp[igt,Ñ]; omega),if_pos (.inl hgt),e1]
 ·rw[Î (by simp[igt,Ñ]; omega)]
  have inner:∀K1 K2:Option ρ,Ê (fun(v53:Int) kk55=>ŕ (n:Int) (Ø (st.2.2.map fun(x:Nat)=>(x:Int))) (st.2.2.map fun(x:Nat)=>(x:Int)) v53 (fun u54=>kk55 u54) (fun _=>ck ((n:Int)+(1:Int)) fun n38=>kn st.1 (st.2.1:Int) n38 (st.2.2.map fun(x:Nat)=>(x:Int))) (fun _=>Ê (fun(v49:Int×List Int) kk52=>Ŕ (n:Int) (Œ m.2) (Ø (Œ m.2)) ids m.1.1.1 m.1.1.2 m.1.2.1 m.1.2.2.1 m.1.2.2.2.1 m.1.2.2.2.2.1 m.1.2.2.2.2.2 m.2 v49.1 v49.2 (fun u50 u51=>kk52 (u50,u51)) (fun z45=>ck ((n:Int)+(1:Int)) fun n46=>kn st.1 (st.2.1:Int) n46 z45) (fun z47=>ck ((n:Int)+(1:Int)) fun n48=>kn (Ý ids n) (n:Int) n48 z47)) ((0:Int),st.2.2.map fun(x:Nat)=>(x:Int)))) (0:Int) =
   (fun s2=>kn (stI s2 (n+1)).1 (stI s2 (n+1)).2.1 (stI s2 (n+1)).2.2.1 (stI s2 (n+1)).2.2.2) (if st.2.2.any (aa0 n) then st else if Ō (κ m (Ý ids n)) then(st.1,st.2.1,st.2.2++[n]) else(Ý ids n,n,st.2.2)):=fun _ _=>by
   rw[aeb h (by omega) (by omega) ho',aec (by omega) (by omega) hop',e1,e1,e1]
   cases st.2.2.any (aa0 n) with
   |true=>rfl
   |false =>
    cases Ō (κ m (Ý ids n)) with
    |true=>simp
    |false=>rfl
  by_cases heq:(Ý ids n).length=st.1.length
  ·rw[Ù (by simp[ieq,Ñ]; omega),inner none none,Î (show ilt (Ø (Ý ids n)) (Ø st.1)=false by simp[ilt,Ñ]; omega),aed heq (by omega),e1]
   by_cases hlex:0≤HP (Ý ids n) st.1
   ·rw[if_pos hlex,if_pos (.inr ⟨heq,hlex⟩)]
   ·rw[if_neg hlex,if_neg (show ¬(st.1.length<(Ý ids n).length∨((Ý ids n).length=st.1.length∧0≤HP (Ý ids n) st.1)) from fun h=>h.elim hgt fun h=>hlex h.2)]
  ·rw[Î (by simp[ieq,Ñ]; omega),inner none none,if_neg (show ¬(st.1.length<(Ý ids n).length∨((Ý ids n).length=st.1.length∧0≤HP (Ý ids n) st.1)) from fun h=>h.elim hgt fun h=>heq h.1)]
def ad5 {ids:List Int} {n:Nat} {st:List Int×Nat×List Nat} (hi:ids.length≤8) (h1:st.1.length≤8) (h2:st.2.2.length≤n) (h3:∀x∈st.2.2,x<n):(BZ m ids st n).1.length≤8∧(BZ m ids st n).2.2.length≤n+1∧∀x∈(BZ m ids st n).2.2,x<n+1:=by
 have hcl:=mw ids n;unfold BZ
 split
 ·exact⟨h1,by omega,fun x hx=>by have:=h3 x hx; omega⟩
 split
 ·exact⟨h1,by omega,fun x hx=>by have:=h3 x hx; omega⟩
 split
 ·refine⟨h1,by simp; omega,fun x hx=>?_⟩;rcases cJ.1 hx with hx|hx
  ·have:=h3 x hx; omega
  ·rw[cO.1 hx]; omega
 ·exact⟨by dsimp only; omega,by dsimp only; omega,fun x hx=>by have:=h3 x hx; omega⟩
def XP {ids:List Int} (hi:ids.length≤8):∀n,(jB m ids n).1.length≤8∧(jB m ids n).2.2.length≤n∧∀x∈(jB m ids n).2.2,x<n
 |0=>⟨hi,cF _,fun x hx=>by cases hx⟩
 |n+1=>by
  obtain⟨h1,h2,h3⟩:=XP hi n;have:=ad5 (m:=m) hi h1 h2 h3;unfold jB at this ⊢;rw[List.range_succ,List.foldl_append];exact this
def pow8 {n:Nat} (h:n≤8):1≤2 ^ n∧2 ^ n≤256:=⟨Nat.one_le_pow _ _ (by decide),Nat.pow_le_pow_right (by decide) h⟩
def YF {ids:List Int} (hi:ids.length≤8):∀n,n≤256→(jB m ids n).2.1≤256
 |0,_=>by have:=(pow8 hi).2; show 2 ^ ids.length-1≤256; omega
 |n+1,hn=>by
  have ih:=YF hi n (by omega);unfold jB at ih ⊢;rw[List.range_succ,List.foldl_append];show(BZ m ids _ n).2.1≤256;unfold BZ
  split
  ·exact ih
  split
  ·exact ih
  split
  ·exact ih
  ·dsimp only; omega
def LW (hs:In m.1) (hn:m.2.length≤1000) {ids:List Int} (hil:ids.length≤1000000):ĥ m ids=some (Vf m ids):=by
 unfold ĥ xg Vf;rw[jl hs hn,À]
 by_cases hc:ė m=0
 ·have h:=(Ģ m).1 hc;rw[Î (by simp[ine,hc]),if_neg (by simp[hc])]
  by_cases h8:8<ids.length
  ·rw[Ù (by simp[igt,Ñ]; omega),if_pos h8]
  ·have hi:ids.length≤8:=by omega
   obtain⟨p1,p2⟩:=pow8 hi;rw[Î (by simp[igt,Ñ]; omega),if_neg h8,aeg h.good.size.compares (by omega)]
   cases ids.all (fun i=>(Ii m).contains i) with
   |false=>rfl
   |true =>
    rw[if_pos rfl,if_neg (by simp),aef (by omega)]
    by_cases hp:ids.Pairwise (·<·)
    ·have hsh:shlI .i64 (1:Int) (Ø ids)=((2 ^ ids.length:Nat):Int):=by
      unfold shlI;rw[Ñ,Int.toNat_natCast,Nat.min_eq_left (by show ids.length≤64; omega),Int.one_mul,show((2:Int) ^ ids.length)=((2 ^ ids.length:Nat):Int) by simp,aaK (by omega)]
     have e0:((2 ^ ids.length:Nat):Int)-1=((2 ^ ids.length-1:Nat):Int):=by omega
     rw[if_pos hp,if_neg (by simpa using hp),Ix h,À,ð (by simp[ile,Ñ]),hsh,Ô (by omega) (by omega),e0]
     have loop:Ê (fun(v91:List Int×Int×Int×List Int) kk96=>ŵ (Œ m.2) ((2 ^ ids.length-1:Nat):Int) ids m.1.1.1 m.1.1.2 m.1.2.1 m.1.2.2.1 m.1.2.2.2.1 m.1.2.2.2.2.1 m.1.2.2.2.2.2 m.2 v91.1 v91.2.1 v91.2.2.1 v91.2.2.2 (fun u92 u93 u94 u95=>kk96 (u92,u93,u94,u95)) (fun z89=>Ã (iB ids z89.1) fun r90=>some (r90,(0:Int)))) (ids,((2 ^ ids.length-1:Nat):Int),(0:Int),[])=some (Ý ids (jB m ids (2 ^ ids.length-1)).2.1,0):=by
      refine ĕ (fun x=>∃n:Nat,n≤2 ^ ids.length-1∧x=stI (jB m ids n) n) (fun x=>2 ^ ids.length-1-x.2.2.1.toNat) ?_ ⟨0,dQ _,rfl⟩;rintro x ⟨n,hn',rfl⟩;obtain⟨i1,i2,i3⟩:=XP (m:=m) hi n;rcases cZ n (2 ^ ids.length-1) with hlt|hge
      ·refine .inr ⟨stI (jB m ids (n+1)) (n+1),⟨n+1,hlt,rfl⟩,by dsimp only; omega,fun kn=>?_⟩;have:=Zp h hi hlt (by omega) i1 i2 i3 (fun a b c d=>kn (a,b,c,d)) (fun z89=>Ã (iB ids z89.1) fun r90=>some (r90,(0:Int)));rw[this];unfold jB;rw[List.range_succ,List.foldl_append]; rfl
      ·have:n=2 ^ ids.length-1:=by omega
       subst this;refine .inl fun kn=>?_;have hf:=YF (m:=m) hi (2 ^ ids.length-1) (by omega);dsimp only;unfold ŵ;rw[Î (by simp[ilt])];dsimp only;rw[Eg (by omega) (by omega)]; rfl
     have h3:=aee h (ids:=ids) (by omega) (s:=2 ^ ids.length-1) (by omega) (some ([],(5:Int))) (some (Ý ids (jB m ids (2 ^ ids.length-1)).2.1,0));rw[loop,h3]
     split<;>rfl
    ·rw[if_neg hp,if_pos hp]
 ·rw[Ù (by simp[ine,hc]),if_pos hc]
end
def Vo (b:ę) (x d:Int):Int:=match jx (Ú b) x d with|some j=>(j:Int)+1|none=>0
def L1 (b:ę) (n:Int×Int):Int×Int:=if Ř b≠0 then(0,Ř b) else if Vo b n.1 n.2=0 then(0,5) else(Vo b n.1 n.2,0)
def L2 {b:ę} (h:In b) (n:Int×Int):pL b n=some (L1 b n):=by
 have hl:=N9 h.size;unfold pL KK L1;rw[rB h.size h.num,À]
 by_cases hc:Ř b=0
 ·rw[Î (by simp[ine,hc]),if_neg (show ¬(Ř b≠0) from fun h=>h hc),PD h.size,À,show ó (Ú b) n=ó (Ú b) (n.1,n.2) from rfl,Vh (by omega),À];unfold Vo
  cases hx:jx (Ú b) n.1 n.2 with
  |none=>rfl
  |some j =>
   have:=(kg hx).1;simp only;rw[Î (by simp[ilt]),Ô (by omega) (by omega),if_neg (by omega)]
 ·rw[Ù (by simp[ine,hc]),if_pos hc]
def rS (b:ę) (n:Int×Int):ę:=(b.1,b.2.1,b.2.2.1,b.2.2.2.1,b.2.2.2.2.1,b.2.2.2.2.2++[n])
def ab3 {b:ę} (h:Φ b) (n:Int×Int):tS (rS b n):=by
 have hs:=h.size;have:=h.nK;exact⟨hs.gauges,hs.uses,hs.loans,hs.compares,by simp[rS]; omega,hs.piles⟩
def aho (b:ę) (n:Int×Int):ę×Int:=if Ř b≠0 then(aav,Ř b) else if Ř (rS b n)≠0 then(aav,Ř (rS b n)) else(rS b n,0)
def ahn {b:ę} (h:In b) (n:Int×Int):Iq b n=some (aho b n):=by
 have hs:=h.size;have h1:=hs.gauges; have h2:=hs.uses; have h3:=hs.loans; have h4:=hs.compares; have h5:=hs.looks;unfold Iq QY aho;rw[rB hs h.num,À]
 by_cases hc:Ř b=0
 ·have hg:=(ś b).1 hc;rw[Î (by simp[ine,hc]),Ó (by omega),Am.iff_true,Ó (by omega),Am.iff_true,Ó (by omega),Am.iff_true,Ó (by omega),Am.iff_true,Ó (by omega),Am.iff_true,if_neg (show ¬(Ř b≠0) from fun h=>h hc)];refine ġ b.2.2.2.2.1 (fun _=>b.2.2.2.2.1) _ rfl (fun i d hi hd kn=>?_) (fun kn=>?_)
  ·dsimp only;unfold vd;obtain⟨p1,p2⟩:=hs.piles d (List.mem_of_getElem? hd)
   have e1:b.2.2.2.2.1.set i d=b.2.2.2.2.1:=by
    obtain⟨h,rfl⟩:=cH.1 hd;exact List.set_getElem_self h
   rw[Ò hi,Ī hi,ò hd,Ó (by omega),Am.iff_true,Ó (by omega),Am.iff_true,Ī hi,ò hd,cT];rw[show(d.1,d.2.1,d.2.2.1,d.2.2.2)=d from rfl,e1,Ī hi,iJ hd,Ë hi (by omega)];rw[show(d.1,d.2.1,d.2.2.1,d.2.2.2.1,d.2.2.2.2)=d from rfl,e1]
  ·try dsimp only
   unfold vd;rw[â];dsimp only;rw[Ó (by simp only[List.length_singleton]; omega),Am.iff_true];rw[show ī (b.1,b.2.1,b.2.2.1,b.2.2.2.1,b.2.2.2.2.1,b.2.2.2.2.2++[n])=ī (rS b n) from rfl,rB (ab3 hg n) h.num,À]
   by_cases hc2:Ř (rS b n)=0
   ·rw[Î (by simp[ine,hc2]),if_neg (show ¬(Ř (rS b n)≠0) from fun h=>h hc2)];rfl
   ·rw[Ù (by simp[ine,hc2]),if_pos hc2];rfl
 ·rw[Ù (by simp[ine,hc]),if_pos hc];rfl
def za (b:ę) (n:Int×Int):ę×Int:=if Vo b n.1 n.2≠0 then(b,0) else if Ř (rS b n)≠0 then(aav,Ř (rS b n)) else(rS b n,0)
structure Room (B:ę):Prop where
 good:Φ B
 op:kF (iY B) ((Ú B).length+1)=true
 num:∀g∈B.2.1,I64 g.2.2.2.2.1.1
def agM (B:ę) (n:Int×Int):0≤Vo B n.1 n.2∧Vo B n.1 n.2<((Ú B).length+1:Nat):=by
 unfold Vo
 cases h:jx (Ú B) n.1 n.2 with
 |none=>dsimp only; omega
 |some j=>have:=(kg h).1; dsimp only; omega
def dstR (B:ę) (s t:Int):Int:=dst (iY B) ((Ú B).length+1) s t
def ivR (B:ę) (n:Int×Int):Int×Int:=(-(dstR B (Vo B n.1 n.2) 0),dstR B 0 (Vo B n.1 n.2))
def OM {ρ α:Type} {l:List α} {i:Int} (h0:0≤i) {a:α} (h:l[i.toNat]?=some a) (f:α→Option ρ):Ĭ l i f=f a:=by
 obtain⟨n,rfl⟩:=gH h0;exact É (by simpa using h) f
def i7 (x:List Int) (y:List Int) (l:Lk):List Int:=if gv x l.2.1=ş then y else y.set l.1.toNat (min (gv y l.1) (l.2.2+gv x l.2.1))
def OY (L:List Lk) (N:Nat) (x:List Int):List Int:=L.foldl (i7 x) (List.replicate N ş)
def exL (L:List Lk) (N:Nat) (to:Int):Nat→List Int
 |0=>(List.replicate N ş).set to.toNat 0
 |k+1=>OY L N (exL L N to k)
def lQ (L:List Lk) (N:Nat) (to:Int) (most:Nat):List (List Int):=(List.range (most+1)).map (exL L N to)
section
variable {L:List Lk} {N:Nat}
def FX (x y:List Int) (l:Lk):(i7 x y l).length=y.length:=by unfold i7; split<;>simp
def FY (x:List Int):∀(M:List Lk) (y:List Int),(M.foldl (i7 x) y).length=y.length
 |[],y=>rfl
 |l::M,y=>by rw[fZ,FY x M,FX]
def Z5 (x:List Int):(OY L N x).length=N:=by unfold OY; rw[FY]; simp
def W5 (to:Int) (k:Nat):(exL L N to k).length=N:=by
 cases k with
 |zero=>simp[exL]
 |succ k=>exact Z5 _
def Lim (B:Int) (x:List Int):Prop:=∀v:Int,gv x v≠ş→-B≤gv x v∧gv x v≤B
def gv_out {x:List Int} {v:Int} (h:¬v.toNat<x.length):gv x v=0:=by
 unfold gv;rw[List.getElem?_eq_none (by omega)];rfl
def KO {B:Int} (hB:0≤B):Lim B (List.replicate N ş):=by
 intro v hv
 by_cases h:v.toNat<N
 ·exfalso; apply hv;unfold gv;rw[List.getElem?_replicate,if_pos h];rfl
 ·rw[gv_out (by simpa using h)]; omega
def acf {B:Int} {y:List Int} (hy:Lim B y) {u:Int} (hu:0≤u) (hl:u.toNat<y.length) {a:Int} (ha:a≠ş→-B≤a∧a≤B):Lim B (y.set u.toNat a):=by
 intro v hv
 by_cases h:v.toNat=u.toNat
 ·have:gv (y.set u.toNat a) v=a:=by
   unfold gv;rw[h,List.getElem?_set_self hl];rfl
  rw[this] at hv ⊢;exact ha hv
 ·have:gv (y.set u.toNat a) v=gv y v:=by
   unfold gv;rw[List.getElem?_set_ne (fun e=>h e.symm)]
  rw[this] at hv ⊢;exact hy v hv
def Yn (hS:jm L N) {B:Int} (hB:0≤B) (hB2:B≤1000000000000000000) {x y:List Int} (hx:Lim B x) (hy:Lim (B+4503599627370496) y) (hl:y.length=N) {l:Lk} (hm:l∈L):Lim (B+4503599627370496) (i7 x y l):=by
 unfold i7
 split
 ·exact hy
 ·rename_i hf;have h1:=hS.inr l hm;have h2:=hS.most l hm;have h3:=hx _ hf;refine acf hy h1.1.1 (by omega) fun ha=>?_
  by_cases h4:gv y l.1=ş
  ·rw[h4] at ha ⊢
   have:min ş (l.2.2+gv x l.2.1)=l.2.2+gv x l.2.1:=by unfold ş; omega
   rw[this]; omega
  ·have:=hy _ h4;omega
def Yo (hS:jm L N) {B:Int} (hB:0≤B) (hB2:B≤1000000000000000000) {x:List Int} (hx:Lim B x):∀(M:List Lk),(∀l∈M,l∈L)→∀y:List Int,y.length=N→Lim (B+4503599627370496) y→Lim (B+4503599627370496) (M.foldl (i7 x) y)
 |[],_,y,_,hy=>hy
 |l::M,hM,y,hl,hy=>by
  rw[fZ];exact Yo hS hB hB2 hx M (fun m hm=>hM m (by simp[hm])) _ (by rw[FX,hl]) (Yn hS hB hB2 hx hy hl (hM l (by simp)))
def BD (hS:jm L N) {to:Int} (ht:0≤to∧to<N):∀k:Nat,k≤200→Lim (k*4503599627370496) (exL L N to k)
 |0,_=>by
  unfold exL;exact acf (KO (by omega)) ht.1 (by simp; omega) (fun _=>by omega)
 |k+1,hk=>by
  have:=Yo hS (B:=k*4503599627370496) (by omega) (by omega) (BD hS ht k (by omega)) L (fun _ h=>h) (List.replicate N ş) (by simp) (KO (by omega));unfold exL OY
  have e:(((k+1:Nat):Int)*4503599627370496)=(k:Int)*4503599627370496+4503599627370496:=by push_cast; omega
  rw[e];exact this
def UI {ρ:Type} (hN:N≤1000) (K:List Int→Option ρ) {f:Int×List Int→(Int×List Int→Option ρ)→Option ρ}
 (hf:∀(v:Int×List Int) kk,f v kk=yx (N:Int) v.1 v.2 (fun u34 u35=>kk (u34,u35)) K):Ê f ((0:Int),List.replicate N (0:Int))=K (List.replicate N ş):=by
 refine ġ (List.replicate N (0:Int)) (fun i=>List.replicate i ş++List.replicate (N-i) (0:Int)) _ (by simp) (fun i a hi ha kn=>?_) (fun kn=>?_)
 ·rw[hf];dsimp only;unfold yx;rw[List.length_replicate] at hi
  have hlen:(List.replicate i ş++List.replicate (N-i) (0:Int)).length=N:=by simp; omega
  have e1:ilt (i:Int) (N:Int)=true:=decide_eq_true (by omega);rw[Ù e1,show ì (List.replicate i ş++List.replicate (N-i) (0:Int))=(N:Int) by unfold ì; rw[hlen],ż (by omega) (by omega),j6 (by rw[hlen]; omega),Ô (by omega) (by omega)];congr 2;rw[Int.toNat_natCast];rw[List.set_append_right _ _ (by simp),List.length_replicate,Nat.sub_self];rw[show N-i=(N-(i+1))+1 by omega,List.replicate_succ,List.set_cons_zero,List.replicate_succ'];simp
 ·rw[hf];dsimp only;unfold yx;rw[List.length_replicate];have e1:ilt (N:Int) (N:Int)=false:=decide_eq_false (by omega);rw[Î e1];simp
def okN (hN:N≤1000) {ρ:Type} (x:Option ρ):ß ((ile (0:Int) (N:Int))&&(æ (Int.toNat (N:Int)))) x=x:=by
 rw[ð];rw[cT,Ó (by omega),Bool.and_true];exact decide_eq_true (by omega)
def ace {ρ:Type} (hS:jm L N) {B:Int} (hB:0≤B) (hB2:B≤1000000000000000000) {x:List Int} (hx:Lim B x) (hxl:x.length=N) (K:List Int→Option ρ) :
 Ê (fun(v20:(Val (.pair tI (.slice tI)))) kk23=>C5 x L (Ø L) v20.1 v20.2 (fun u21 u22=>kk23 (u21,u22)) K) ((0:Int),List.replicate N ş)=K (OY L N x):=by
 have hl3:=hS.len;refine ġ L (fun i=>(L.take i).foldl (i7 x) (List.replicate N ş)) _ rfl (fun i l hi hl kn=>?_) (fun kn=>?_)
 ·try dsimp only
  unfold C5;have hm:=List.mem_of_getElem? hl;have h1:=hS.inr l hm;have h2:=hS.most l hm;rw[Ò hi,É hl,vk h1.2.1 (by omega),take_succ hl,List.foldl_append,Ë hi (by omega)]
  have hlen:((L.take i).foldl (i7 x) (List.replicate N ş)).length=N:=by rw[FY]; simp
  generalize (L.take i).foldl (i7 x) (List.replicate N ş)=y at hlen ⊢
  by_cases hf:gv x l.2.1=ş
  ·rw[Î (by rw[hf]; rfl)];simp only[List.foldl_cons,List.foldl_nil];unfold i7;rw[if_pos hf]
  ·have h3:=hx _ hf;rw[Ù (bne_iff_ne.2 hf),show ì y=(N:Int) by unfold ì; rw[hlen],ż h1.1.1 h1.1.2,j6 (by omega),vk h1.2.1 (by omega),Ô (by omega) (by omega),ż h1.1.1 h1.1.2,j6 (by omega),Ë hi (by omega)];simp only[List.foldl_cons,List.foldl_nil];unfold i7;rw[if_neg hf,WT]
 ·try dsimp only
  unfold C5;rw[â,List.take_length];rfl
def ae1 {ρ:Type}:@Qh ρ=@yx ρ:=rfl
def FV (to:Int) (m:Nat):(lQ L N to m).length=m+1:=by simp[lQ]
def FW {to:Int} {m k:Nat} (hk:k≤m):(lQ L N to m)[k]?=some (exL L N to k):=by
 unfold lQ;rw[List.getElem?_map,List.getElem?_range (by omega)];rfl
def ae0 (hS:jm L N) {to:Int} (ht:0≤to∧to<N) {most:Nat} (hm:most≤100):D7 ((N:Int),L) to (most:Int)=some (lQ L N to most):=by
 have hN:=hS.n60
 unfold D7 JW
 dsimp only;rw[okN (by omega),Int.toNat_natCast];refine(UI (by omega) _ (fun v kk=>by rw[Ñ,List.length_replicate])).trans ?_;rw[show ì (List.replicate N ş)=(N:Int) by simp[ì],ż ht.1 ht.2,j6 (by simp; omega)];refine ġ (List.replicate most ()) (fun i=>lQ L N to i) _ (by simp[lQ,exL]) (fun i a hi ha kn=>?_) (fun kn=>?_)
 ·try dsimp only
  unfold Ib;rw[List.length_replicate] at hi;have e1:ilt (i:Int) (most:Int)=true:=decide_eq_true (by omega);rw[Ù e1,Ñ,FV]
  have e2:(((i+1:Nat):Int)-1)=(i:Int):=by omega
  rw[e2,Ô (by omega) (by omega),show ì (lQ L N to i)=((i+1:Nat):Int) by unfold ì; rw[FV],ż (by omega) (by omega),Int.toNat_natCast,iJ (FW (Nat.le_refl i)),okN (by omega),Int.toNat_natCast];rw[ae1];refine(UI (by omega) _ (fun v kk=>by rw[Ñ,List.length_replicate])).trans ?_;refine(ace hS (B:=i*4503599627370496) (by omega) (by omega) (BD hS ht i (by omega)) (W5 _ _) _).trans ?_;rw[ð (Ó (by simp only[FV,List.length_singleton]; omega)),Ô (by omega) (by omega)];congr 2;unfold lQ;rw[List.range_succ (n:=i+1),List.map_append];rfl
 ·try dsimp only
  unfold Ib;rw[List.length_replicate];have e1:ilt (most:Int) (most:Int)=false:=decide_eq_false (by omega);rw[Î e1]
def PG (L:List Lk) (x:List Int) (good:Int→Bool) (u sum:Int):Option Nat:=L.findIdx? fun l=>l.1==u&&(decide (gv x l.2.1≠ş)&&good (sum+l.2.2+gv x l.2.1))
def nZ (L:List Lk) (rest:Nat→List Int) (good:Int→Bool):Nat→Int→Int→List Int→List Int
 |0,_,_,out=>out
 |k+1,u,sum,out=>match PG L (rest k) good u sum with
  |some i=>nZ L rest good k (L[i]?.getD (0,0,0)).2.1 (sum+(L[i]?.getD (0,0,0)).2.2) (out++[(i:Int)])
  |none=>nZ L rest good k u sum out
def folL {ρ:Type} (good:Int→Bool) (c0:Int) (c1:List (List Int)) (c2:List Lk) (c3:Int) (v0:Int) (v1:Int) (v2:Int) (v3:List Int) (kn:Int→Int→Int→List Int→Option ρ) (k0:Int×Int×List Int→Option ρ):Option ρ :=
 ifb (ilt v2 c3) (Ĭ c2 v2 fun e7=>ifb (ieq e7.1 v0) (ck (c0-(1:Int)) fun n8=>Ĭ c1 n8 fun e9=>Ĭ e9 e7.2.1 fun e10=>ifb (ine e10 (1152921504606846976:Int)) (ck (v1+e7.2.2) fun n11=>ck (c0-(1:Int)) fun n12=>Ĭ c1 n12 fun e13=>Ĭ e13 e7.2.1 fun e14=>ck (n11+e14) fun n15=>ifb (good n15) (ß (æ ((List.length v3)+(List.length ([v2])))) (ck (v1+e7.2.2) fun n16=>k0 (e7.2.1,n16,(v3++([v2]))))) (ck (v2+(1:Int)) fun n17=>kn v0 v1 n17 v3)) (ck (v2+(1:Int)) fun n18=>kn v0 v1 n18 v3)) (ck (v2+(1:Int)) fun n19=>kn v0 v1 n19 v3)) (k0 (v0,v1,v3))
def agS {ρ:Type} (hS:jm L N) (good:Int→Bool) {rest:List (List Int)} {k:Nat} {x:List Int} (hr:rest[k]?=some x) (hk:k≤100) (hx:Lim 1000000000000000000 x) (hxl:x.length=N) {u sum:Int} (hs : -1000000000000000000≤sum∧sum≤1000000000000000000) {out:List Int} (ho:out.length≤1000)
 (K:Int×Int×List Int→Option ρ):Ê (fun(v:Int×Int×Int×List Int) kk=>folL good ((k+1:Nat):Int) rest L (Ø L) v.1 v.2.1 v.2.2.1 v.2.2.2 (fun a b c d=>kk (a,b,c,d)) K) (u,sum,(0:Int),out) =
  match PG L x good u sum with|some i=>K ((L[i]?.getD (0,0,0)).2.1,sum+(L[i]?.getD (0,0,0)).2.2,out++[(i:Int)])|none=>K (u,sum,out):=by
 have hl3:=hS.len;refine ĕ (fun v=>∃i:Nat,i≤L.length∧v=(u,sum,(i:Int),out)∧∀j l,j<i→L[j]?=some l→(l.1==u&&(decide (gv x l.2.1≠ş)&&good (sum+l.2.2+gv x l.2.1)))=false) (fun v=>L.length-v.2.2.1.toNat) ?_ ⟨0,by omega,rfl,fun j l h=>by omega⟩;rintro v ⟨i,hi,rfl,hp⟩
 have e0:(((k+1:Nat):Int)-1)=(k:Int):=by omega
 rcases cZ i L.length with h2|h2
 ·have hl:L[i]?=some L[i]:=cE h2;generalize L[i]=l at hl;have hm:=cN hl;have h1:=hS.inr l hm;have h4:=hS.most l hm
  have hstep:(l.1==u&&(decide (gv x l.2.1≠ş)&&good (sum+l.2.2+gv x l.2.1)))=false→∃y,(∃i:Nat,i≤L.length∧y=(u,sum,(i:Int),out)∧∀j l,j<i→L[j]?=some l→(l.1==u&&(decide (gv x l.2.1≠ş)&&good (sum+l.2.2+gv x l.2.1)))=false)∧(L.length-y.2.2.1.toNat<L.length-((u,sum,(i:Int),out):Int×Int×Int×List Int).2.2.1.toNat)∧y=(u,sum,(i:Int)+1,out):=fun hf =>
   ⟨_,⟨i+1,h2,by rw[show((i+1:Nat):Int)=(i:Int)+1 by push_cast; rfl],fun j m hj hm=>by
    rcases gD.1 hj with h|rfl
    ·exact hp j m h hm
    ·rw[hl] at hm; cases hm; exact hf⟩,by simp; omega,rfl⟩
  by_cases hf:(l.1==u&&(decide (gv x l.2.1≠ş)&&good (sum+l.2.2+gv x l.2.1)))=true
  ·refine .inl fun kn=>?_
   have hfi:PG L x good u sum=some i:=by
    unfold PG;rw[List.findIdx?_eq_some_iff_getElem];obtain⟨hh,rfl⟩:=List.getElem?_eq_some_iff.1 hl;exact⟨h2,hf,fun j hj=>by have:=hp j _ hj (List.getElem?_eq_getElem (by omega)); rw[this]; simp⟩
   rw[hfi];simp only[Bool.and_eq_true,beq_iff_eq,decide_eq_true_eq] at hf;have h5:=hx _ hf.2.1;dsimp only;unfold folL
   rw[Ò h2,É hl,Ù (by simp[hf.1]),e0,Ô (by omega) (by omega),É hr,vk h1.2.1 (by omega),Ù (bne_iff_ne.2 hf.2.1),Ô (by omega) (by omega),Ô (by omega) (by omega),É hr,vk h1.2.1 (by omega),Ô (by omega) (by omega),Ù hf.2.2,
    ð (Ó (by simp; omega)),Ô (by omega) (by omega),hl]
   rfl
  ·have hf':=Bool.not_eq_true _▸hf;obtain⟨y,hy1,hy2,rfl⟩:=hstep hf';refine .inr ⟨_,hy1,hy2,fun kn=>?_⟩;dsimp only;unfold folL;rw[Ò h2,É hl,Ë h2 (by omega)]
   by_cases g1:l.1=u
   ·rw[Ù (by simp[g1]),e0,Ô (by omega) (by omega),É hr,vk h1.2.1 (by omega)]
    by_cases g2:gv x l.2.1=ş
    ·rw[Î (by rw[g2]; rfl)]
    ·have h5:=hx _ g2
     have g3:good (sum+l.2.2+gv x l.2.1)=false:=by simpa[g1,g2] using hf'
     rw[Ù (bne_iff_ne.2 g2),Ô (by omega) (by omega),Ô (by omega) (by omega),É hr,vk h1.2.1 (by omega),Ô (by omega) (by omega),Î g3]
   ·rw[Î (by simpa using g1)]
 ·refine .inl fun kn=>?_
  obtain rfl:i=L.length:=by omega
  have hfi:PG L x good u sum=none:=by
   unfold PG;rw[List.findIdx?_eq_none_iff];intro l hl;obtain⟨j,hj,rfl⟩:=List.mem_iff_getElem.1 hl;exact hp j _ hj (List.getElem?_eq_getElem hj)
  rw[hfi];dsimp only;unfold folL;rw[â]
def folM {ρ:Type} (good:Int→Bool) (c0:List (List Int)) (c6:List Lk) (v0:Int) (v1:Int) (v2:Int) (v3:List Int) (kn:Int→Int→Int→List Int→Option ρ) (k0:List Int→Option ρ):Option ρ :=
 ifb (igt v1 (0:Int)) (Ê (fun(v22:Int×Int×Int×List Int) kk27=>folL good v1 c0 c6 (Ø c6) v22.1 v22.2.1 v22.2.2.1 v22.2.2.2 (fun u23 u24 u25 u26=>kk27 (u23,u24,u25,u26)) (fun z20=>ck (v1-(1:Int)) fun n21=>kn z20.1 n21 z20.2.1 z20.2.2)) (v0,v2,(0:Int),v3)) (k0 v3)
def agR {ρ:Type} (hS:jm L N) (good:Int→Bool) {rest:List (List Int)} {R:Nat→List Int} {k0:Nat} (hk:k0≤100) (hr:∀k,k<k0→rest[k]?=some (R k)) (hx:∀k,k<k0→Lim 900000000000000000 (R k)∧(R k).length=N) (u:Int) (K:List Int→Option ρ) :
 Ê (fun(v:Int×Int×Int×List Int) kk=>folM good rest L v.1 v.2.1 v.2.2.1 v.2.2.2 (fun a b c d=>kk (a,b,c,d)) K) (u,(k0:Int),(0:Int),[])=K (nZ L R good k0 u 0 []):=by
 have key:=tv (f:=fun(v:Int×Int×Int×List Int) kk=>folM good rest L v.1 v.2.1 v.2.2.1 v.2.2.2 (fun a b c d=>kk (a,b,c,d)) K) (F:=fun v=>K (nZ L R good v.2.1.toNat v.1 v.2.2.1 v.2.2.2))
  (fun v=>∃k:Nat,v.2.1=k∧k≤k0∧(-(((k0-k:Nat):Int)*4503599627370496)≤v.2.2.1∧v.2.2.1≤((k0-k:Nat):Int)*4503599627370496)∧v.2.2.2.length≤k0-k) (fun v=>v.2.1.toNat) (fun v hv kn hk=>?_) (x:=(u,(k0:Int),0,[])) ⟨k0,rfl,cF _,by simp,by simp⟩
 ·rw[key]; simp
 ·obtain⟨u,k',sum,out⟩:=v;obtain⟨k,e,h1,h2,h3⟩:=hv;dsimp only at e h2 h3 hk ⊢;subst e;rw[Int.toNat_natCast] at hk ⊢;unfold folM
  cases k with
  |zero =>
   rw[Î (by rfl)];rfl
  |succ k =>
   rw[Ù (decide_eq_true (by omega))];have hh:=hx k (by omega)
   have hlim:Lim 1000000000000000000 (R k):=fun v hv=>by have:=hh.1 v hv; omega
   refine(agS hS good (hr k (by omega)) (by omega) hlim hh.2 (by omega) (by omega) _).trans ?_;unfold nZ
   have e0:(((k+1:Nat):Int)-1)=(k:Int):=by omega
   cases hn:PG L (R k) good u sum with
   |none =>
    dsimp only;rw[e0,Ô (by omega) (by omega),hk _ ⟨k,rfl,by omega,by dsimp only; omega,by dsimp only; omega⟩ (by simp)];simp
   |some i =>
    have hi:i<L.length:=by
     unfold PG at hn;exact(List.findIdx?_eq_some_iff_getElem.1 hn).1
    have hl:L[i]?=some L[i]:=List.getElem?_eq_getElem hi;have h4:=hS.most L[i] (List.getElem_mem _);dsimp only;rw[hl];simp only[Option.getD_some];rw[e0,Ô (by omega) (by omega),hk _ ⟨k,rfl,by omega,by dsimp only; omega,by simp; omega⟩ (by simp)];simp
end
def AI (L:List Lk):Int→Int→List Int→Int×Int×Bool
 |u,s,[]=>(u,s,true)
 |u,s,i::t=>if (L[i.toNat]?.getD (0,0,0)).1=u then AI L (L[i.toNat]?.getD (0,0,0)).2.1 (s+(L[i.toNat]?.getD (0,0,0)).2.2) t else(0,0,false)
def AG (L:List Lk) (i:Int):Bool:=decide (i<0)||decide ((L.length:Int)≤i)
def lg (L:List Lk) (l:List Int):Int:=if 80<l.length then 2 else if l.any (AG L) then 1 else 0
def YO (u:Int) (w:Int×Int×Bool):Int:=if w.2.2=true∧w.1=u∧w.2.1<0 then 0 else 8
def Ş (L:List Lk) (l:List Int):Int :=
 if lg L l≠0 then lg L l else match l with
 |[]=>8
 |i::_=>YO (L[i.toNat]?.getD (0,0,0)).1 (AI L (L[i.toNat]?.getD (0,0,0)).1 0 l)
section
variable {L:List Lk} {N:Nat}
def Z2 (N:Int) (hL:L.length≤1000) (l:List Int):vn (N,L) l=some (lg L l):=by
 unfold vn Bj lg;dsimp only;rw[Ñ]
 by_cases h:80<l.length
 ·rw[Ù (decide_eq_true (by omega)),if_pos h]
 ·rw[Î (decide_eq_false (by omega)),if_neg h,←Ñ l];refine(ũ l (AG L) (fun z=>ifb (ige z 0) (some 1) (some 0)) (some 1) (some 0) (fun j=>by rw[show ige (j:Int) 0=true from decide_eq_true (by omega)]; rfl) (fun i a hi ha kn=>?_) (fun kn=>?_)).trans ?_
  ·try dsimp only
   unfold mG AG;rw[Ò hi,É ha,Ë hi (by omega),Ñ,Č,Č]
   by_cases h1:a<0
   ·simp[ilt,h1]
   ·by_cases h2:(L.length:Int)≤a
    ·simp[ilt,ige,h1,h2]
    ·simp[ilt,ige,h1,h2]
  ·try dsimp only
   unfold mG;rw[â]
  ·cases l.any (AG L)<;>rfl
def WV {l:List Int} (h:lg L l=0):l.length≤80∧∀i∈l,0≤i∧i.toNat<L.length:=by
 unfold lg at h
 split at h
 ·omega
 ·rename_i h1
  split at h
  ·omega
  ·rename_i h2;refine⟨by omega,fun i hi=>?_⟩;have:=dM.1 (d8.2 h2) i hi;simp[AG] at this;omega
def aga (hS:jm L N) (u:Int) {l:List Int} (h:lg L l=0):Im ((N:Int),L) u l=some (AI L u 0 l):=by
 obtain⟨hl,hi⟩:=WV h;unfold Im Qf;dsimp only
 have:=tv (f:=fun(v7:Int×Int×Int) kk11=>uG l (Ø l) L v7.1 v7.2.1 v7.2.2 (fun u8 u9 u10=>kk11 (u8,u9,u10)) (fun z5=>some (z5.1,z5.2.1,z5.2.2)) (fun z6=>some (z6.1,z6.2,true)))
  (F:=fun v=>some (AI L v.1 v.2.1 (l.drop v.2.2.toNat))) (fun v=>∃i:Nat,v.2.2=i∧i≤l.length∧(-(i*4503599627370496)≤v.2.1∧v.2.1≤i*4503599627370496)) (fun v=>l.length-v.2.2.toNat) (fun v hv kn hk=>?_) (x:=(u,(0:Int),(0:Int))) ⟨0,rfl,by omega,by simp⟩
 ·exact this
 ·obtain⟨w,s,n⟩:=v;obtain⟨i,e,h1,h2⟩:=hv;dsimp only at e h2 hk ⊢;subst e;rw[Int.toNat_natCast] at hk ⊢;unfold uG;rcases Nat.lt_or_ge i l.length with h3|h3
  ·have ha:l[i]?=some l[i]:=List.getElem?_eq_getElem h3;have hd:l.drop i=l[i]::l.drop (i+1):=List.drop_eq_getElem_cons h3;rw[hd];have hx:=hi l[i] (List.getElem_mem _);generalize l[i]=a at ha hx;have hg:L[a.toNat]?=some L[a.toNat]:=List.getElem?_eq_getElem hx.2;have hm:=hS.most _ (List.mem_of_getElem? hg);generalize L[a.toNat]=x at hg hm;rw[Ò h3,É ha,OM hx.1 hg];unfold AI;rw[hg];simp only[Option.getD_some]
   by_cases hc:x.1=w
   ·rw[Î (by rw[hc]; exact bne_self_eq_false' _),if_pos hc,Ô (by omega) (by omega),Ë h3 (by omega),hk _ ⟨i+1,by push_cast; rfl,h3,by dsimp only; push_cast; omega⟩ (by simp; omega)];simp
   ·rw[Ù (bne_iff_ne.2 hc),if_neg hc]
  ·obtain rfl:i=l.length:=by omega
   rw[â,List.drop_length];rfl
def acr {ρ α:Type} (x:α) (t:List α) (f:α→Option ρ):Ĭ (x::t) (0:Int) f=f x:=rfl
def NJ (hS:jm L N) (l:List Int):mL ((N:Int),L) l=some (Ş L l):=by
 have hl3:=hS.len;unfold mL rO Ş;rw[lC hS,À,Î (by rfl),Z2 _ (by omega),À]
 by_cases h:lg L l=0
 ·rw[Î (by rw[h]; rfl),if_neg (by simp[h])]
  cases l with
  |nil=>rw[Ñ]; rfl
  |cons i t =>
   have hx:=(WV h).2 i (by simp);have hg:L[i.toNat]?=some L[i.toNat]:=List.getElem?_eq_getElem hx.2;generalize L[i.toNat]=x at hg;rw[Ñ,Î (beq_eq_false_iff_ne.2 (by simp; omega)),acr,OM hx.1 hg,aga hS x.1 h,À];dsimp only;rw[hg];dsimp only[Option.getD_some];generalize AI L x.1 0 (i::t)=w;obtain⟨e,sum,ok⟩:=w;unfold YO;dsimp only
   cases ok with
   |false=>rw[Ù (by rfl),if_neg (by simp)]
   |true =>
    rw[Î (by rfl)]
    by_cases h2:e=x.1
    ·rw[Î (by rw[h2]; exact bne_self_eq_false' _)]
     by_cases h3:sum<0
     ·rw[Î (decide_eq_false (by omega)),if_pos ⟨rfl,h2,h3⟩]
     ·rw[Ù (decide_eq_true (by omega)),if_neg (fun h=>h3 h.2.2)]
    ·rw[Ù (bne_iff_ne.2 h2),if_neg (fun h=>h2 h.2.1)]
 ·rw[Ù (bne_iff_ne.2 h),if_pos h]
end
def aaf {L:List Lk} {N:Nat} (h:jm L N) (ho:kF L N=true):nF ((N:Int),L)=some ([],5):=by
 have hN:=h.n60;unfold nF C9;rw[lC h,À,Î (by rfl),tZ h.links h.n1 (by omega),À,if_pos ho];rfl
def Zc (b:ę) (n:Int×Int):Prop:=∃g∈b.2.1,g.1=n.1∧n.2∈è b g
def Rg {b:ę} (h:Φ b) {n:Int×Int}:Vo b n.1 n.2≠0↔Zc b n:=by
 unfold Vo;constructor
 ·intro hne
  cases hx:jx (Ú b) n.1 n.2 with
  |none=>rw[hx] at hne; simp at hne
  |some j =>
   have hm:=List.mem_of_getElem? (kg hx).2;unfold Ú at hm;obtain⟨g,hg,hd⟩:=List.mem_flatMap.1 hm;obtain⟨d,hd,e⟩:=List.mem_map.1 hd;simp only[Prod.mk.injEq] at e;obtain⟨e1,rfl⟩:=e;exact⟨g,hg,e1,hd⟩
 ·rintro⟨g,hg,e,hd⟩;obtain⟨i,hi,rfl⟩:=List.mem_iff_getElem.1 hg;obtain⟨k,hk,e2⟩:=List.mem_iff_getElem.1 hd;rw[←e,PE h (List.getElem?_eq_getElem hi) (by rw[List.getElem?_eq_getElem hk,e2])];dsimp only;omega
def ab4 {b:ę} (n:Int×Int) (h':Φ (rS b n)):Zc (rS b n) n:=by
 have hu:=h'.looks n (by simp[rS]);unfold aaU at hu
 split at hu
 ·omega
 obtain⟨g,hg,_⟩:=EL h' hu;obtain⟨hm,e⟩:=iZ hg;refine⟨g,hm,e,?_⟩;unfold è;rw[B5];unfold UN rS;simp only[List.mem_append,List.mem_map,List.mem_filter];exact .inr ⟨n,⟨.inr (by simp),by simp[e]⟩,rfl⟩
def aa4 {b:ę} {n:Int×Int} (e:(za b n).2=0):(za b n=(b,0)∧Vo b n.1 n.2≠0)∨(za b n=(rS b n,0)∧Φ (rS b n)∧Vo b n.1 n.2=0):=by
 unfold za at e ⊢
 split
 ·rename_i h; exact .inl ⟨rfl,h⟩
 ·rename_i h1;rw[if_neg h1] at e
  split
  ·rename_i h2; rw[if_pos h2] at e; exact absurd e h2
  ·rename_i h2; exact .inr ⟨rfl,(ś _).1 (by simpa using h2),by simpa using h1⟩
def ab5 {b:ę} {n:Int×Int} {f:Int→Int→Int} {z:Int}:ahp (rS b n) f z↔ahp b f z :=
 ⟨fun h=>⟨fun g hg=>by have:=h.gauge g hg; exact⟨this.hi,this.lo,this.down,this.loss⟩,h.cmp⟩,fun h=>⟨fun g hg=>by have:=h.gauge g hg; exact⟨this.hi,this.lo,this.down,this.loss⟩,h.cmp⟩⟩
inductive Wk (L:List Lk) (to:Int):Nat→Int→Int→Prop
 |nil:Wk L to 0 to 0
 |step {k:Nat} {v w m d:Int}:(v,w,m)∈L→Wk L to k w d→Wk L to (k+1) v (m+d)
section
variable {L:List Lk} {N:Nat}
def Wk.snoc {u v m:Int} (hl:(u,v,m)∈L):∀{k:Nat} {s d:Int},Wk L u k s d→Wk L v (k+1) s (d+m):=by
 intro k s d h
 induction h with
 |nil =>
  have:=Wk.step hl (Wk.nil (L:=L) (to:=v))
  have e:m+0=0+m:=by omega
  rw[e] at this;exact this
 | @step k a w m' d h1 h2 ih =>
  have:=Wk.step h1 ih
  have e:m'+(d+m)=m'+d+m:=by omega
  rw[e] at this;exact this
def Wk.bd (hS:jm L N) {t:Int} {k:Nat} {s d:Int} (h:Wk L t k s d) : -(k*4503599627370496)≤d∧d≤k*4503599627370496:=by
 induction h with
 |nil=>omega
 | @step k v w m d h1 h2 ih =>
  have:=hS.most _ h1;dsimp only at this;push_cast;omega
def WW {v:Int} (h0:0≤v) (h1:v<N):gv (List.replicate N ş) v=ş:=by
 unfold gv;rw[List.getElem?_replicate,if_pos (by omega)];rfl
def aeE {B:Int} (hB:B≤1100000000000000000) {x:List Int} (hx:Lim B x) (v:Int):gv x v≤ş:=by
 by_cases h:gv x v=ş
 ·omega
 ·have:=hx v h; unfold ş; omega
def DY (hS:jm L N) {B:Int} (hB:0≤B) (hB2:B≤1000000000000000000) {x:List Int} (hx:Lim B x) {v:Int} (h0:0≤v) (h1:v<N) :
 ∀(M:List Lk),(∀l∈M,l∈L)→∀y:List Int,y.length=N→Lim (B+4503599627370496) y →
  gv (M.foldl (i7 x) y) v≤gv y v∧(∀w m,(v,w,m)∈M→gv x w≠ş→gv (M.foldl (i7 x) y) v≤m+gv x w) ∧
  (gv (M.foldl (i7 x) y) v=gv y v∨∃w m,(v,w,m)∈M∧gv x w≠ş∧gv (M.foldl (i7 x) y) v=m+gv x w)
 |[],_,y,_,_=>⟨dR _,fun _ _ h=>by simp at h,.inl rfl⟩
 |l::M,hM,y,hl,hy=>by
  rw[fZ];have hlm:=hM l (by simp);obtain⟨i1,i2,i3⟩:=DY hS hB hB2 hx h0 h1 M (fun m hm=>hM m (by simp[hm])) (i7 x y l) (by rw[FX,hl]) (Yn hS hB hB2 hx hy hl hlm);have hr:=hS.inr l hlm;have hyF:=aeE (by omega) hy
  -- the element behind one link
  have key:gv (i7 x y l) v≤gv y v∧(l.1=v→gv x l.2.1≠ş→gv (i7 x y l) v≤l.2.2+gv x l.2.1)∧(gv (i7 x y l) v=gv y v∨(l.1=v∧gv x l.2.1≠ş∧gv (i7 x y l) v=l.2.2+gv x l.2.1)):=by
   unfold i7
   by_cases hf:gv x l.2.1=ş
   ·rw[if_pos hf];exact⟨dR _,fun _ h=>absurd hf h,.inl rfl⟩
   ·rw[if_neg hf,rk hr.1.1 h0 (by omega)]
    by_cases hv:v=l.1
    ·rw[if_pos hv,hv];refine⟨by omega,fun _ _=>by omega,?_⟩
     by_cases hc:gv y l.1≤l.2.2+gv x l.2.1
     ·exact .inl (by omega)
     ·exact .inr ⟨rfl,hf,by omega⟩
    ·rw[if_neg hv];exact⟨dR _,fun h=>absurd h.symm hv,.inl rfl⟩
  obtain⟨k1,k2,k3⟩:=key;refine⟨by omega,fun w m hm hw=>?_,?_⟩
  ·rcases cM.1 hm with h|h
   ·subst h;have:=k2 rfl hw;dsimp only at this;omega
   ·exact i2 w m h hw
  ·rcases i3 with h|⟨w,m,h,hw,e⟩
   ·rcases k3 with h'|⟨h',hw,e⟩
    ·exact .inl (h.trans h')
    ·refine .inr ⟨l.2.1,l.2.2,?_,hw,h.trans e⟩;rw[←h']; simp
   ·exact .inr ⟨w,m,by simp[h],hw,e⟩
def Rt (hS:jm L N) {to:Int} (ht:0≤to∧to<N):∀k:Nat,k≤200→∀v:Int,0≤v→v<N →
 (gv (exL L N to k) v≠ş→Wk L to k v (gv (exL L N to k) v))∧∀d,Wk L to k v d→gv (exL L N to k) v≤d∧gv (exL L N to k) v≠ş
 |0,_,v,h0,h1=>by
  unfold exL;rw[rk ht.1 h0 (by simp; omega)]
  by_cases hv:v=to
  ·subst hv;rw[if_pos rfl];refine⟨fun _=>.nil,fun d hd=>?_⟩;cases hd;exact⟨dR _,by decide⟩
  ·rw[if_neg hv,WW h0 h1];refine⟨fun h=>absurd rfl h,fun d hd=>?_⟩;cases hd;exact absurd rfl hv
 |k+1,hk,v,h0,h1=>by
  have hlim:=BD hS ht k (by omega);obtain⟨i1,i2,i3⟩:=DY hS (B:=k*4503599627370496) (by omega) (by omega) hlim h0 h1 L (fun _ h=>h) (List.replicate N ş) (by simp) (KO (by omega));have ih:=Rt hS ht k (by omega);unfold exL OY;refine⟨fun hf=>?_,fun d hd=>?_⟩
  ·rcases i3 with h|⟨w,m,h,hw,e⟩
   ·rw[WW h0 h1] at h; exact absurd h hf
   ·rw[e];have hwr:=(hS.inr _ h).2;exact .step h ((ih w hwr.1 hwr.2).1 hw)
  ·have hb:=Wk.bd hS hd
   cases hd with
   | @step k' v' w m d h h2 =>
    have hwr:=(hS.inr _ h).2;obtain⟨j1,j2⟩:=(ih w hwr.1 hwr.2).2 d h2;have:=i2 w m h j2;refine⟨by omega,?_⟩
    have hq:(m+d)≤1000000000000000000:=by push_cast at hb; omega
    intro hF;rw[hF] at this;unfold ş at this;omega
def ae2 (hS:jm L N) {to:Int} (ht:0≤to∧to<N) {k:Nat} (hk:k+1≤200) {u:Int} (hu:0≤u∧u<N) (hf:gv (exL L N to (k+1)) u≠ş) :
 ∃w m,(u,w,m)∈L∧gv (exL L N to k) w≠ş∧gv (exL L N to (k+1)) u=m+gv (exL L N to k) w:=by
 have hlim:=BD hS ht k (by omega);obtain⟨_,_,i3⟩:=DY hS (B:=k*4503599627370496) (by omega) (by omega) hlim hu.1 hu.2 L (fun _ h=>h) (List.replicate N ş) (by simp) (KO (by omega));have e:exL L N to (k+1)=L.foldl (i7 (exL L N to k)) (List.replicate N ş):=rfl;rw[e] at hf ⊢;rcases i3 with h|h
 ·rw[WW hu.1 hu.2] at h; exact absurd h hf
 ·exact h
def Lb (hS:jm L N) {to:Int} (ht:0≤to∧to<N) (good:Int→Bool):∀(k:Nat),k≤200→∀(u sum:Int) (out:List Int),0≤u→u<N→gv (exL L N to k) u≠ş→good (sum+gv (exL L N to k) u)=true →
 ∃q,nZ L (exL L N to) good k u sum out=out++q∧q.length=k∧(∀i∈q,AG L i=false)∧∃s,AI L u sum q=(to,s,true)∧good s=true
 |0,_,u,sum,out,h0,h1,hf,hg=>by
  have hu:u=to:=by
   have hw:=((Rt hS ht 0 (by omega) u h0 h1).1 hf);generalize gv (exL L N to 0) u=y at hw;cases hw;rfl
  subst hu
  have e:gv (exL L N u 0) u=0:=by
   unfold exL;rw[rk ht.1 h0 (by simp; omega),if_pos rfl]
  rw[e,gE] at hg;exact⟨[],by simp[nZ],rfl,by simp,sum,rfl,hg⟩
 |k+1,hk,u,sum,out,h0,h1,hf,hg=>by
  obtain⟨w,m,hl,hw,e⟩:=ae2 hS ht hk ⟨h0,h1⟩ hf;unfold nZ PG
  cases hn:L.findIdx? (fun l=>l.1==u&&(decide (gv (exL L N to k) l.2.1≠ş)&&good (sum+l.2.2+gv (exL L N to k) l.2.1))) with
  |none =>
   have:=dC.1 hn (u,w,m) hl;rw[e,←Int.add_assoc] at hg;simp[hw,hg] at this
  |some i =>
   obtain⟨hi,hp,_⟩:=List.findIdx?_eq_some_iff_getElem.1 hn;have hg2:L[i]?=some L[i]:=List.getElem?_eq_getElem hi;have hm:=List.mem_of_getElem? hg2;generalize L[i]=x at hp hg2 hm;simp only[Bool.and_eq_true,beq_iff_eq,decide_eq_true_eq] at hp;obtain⟨p1,p2,p3⟩:=hp;have hr:=(hS.inr x hm).2;obtain⟨q,q1,q2,q3,s,q4,q5⟩:=Lb hS ht good k (by omega) x.2.1 (sum+x.2.2) (out++[(i:Int)]) hr.1 hr.2 p2 p3;dsimp only;rw[hg2];simp only[Option.getD_some];refine⟨(i:Int)::q,by rw[q1]; simp,by simp[q2],fun j hj=>?_,s,?_,q5⟩
   ·rcases cM.1 hj with rfl|hj
    ·simp[AG]; omega
    ·exact q3 j hj
   ·unfold AI;rw[Int.toNat_natCast,hg2];simp only[Option.getD_some];rw[if_pos p1];exact q4
def aeG {P:Int→Prop} {B:Int} (h:∃d,P d) (hB:∀d,P d→B≤d):∃d,P d∧∀e,P e→d≤e:=by
 obtain⟨d0,h0⟩:=h
 have:∀(n:Nat) (d:Int),P d→(d-B).toNat≤n→∃d,P d∧∀e,P e→d≤e:=by
  intro n
  induction n with
  |zero=>intro d hd hn; exact⟨d,hd,fun e he=>by have:=hB e he; have:=hB d hd; omega⟩
  |succ n ih =>
   intro d hd hn
   by_cases hx:∃e,P e∧e<d
   ·obtain⟨e,he,hl⟩:=hx;exact ih e he (by have:=hB e he; omega)
   ·exact⟨d,hd,fun e he=>by
     rcases gA e d with q|q
     ·exact absurd ⟨e,he,q⟩ hx
     ·exact q⟩
 exact this _ d0 h0 (cF _)
def Wl.cutK {S:Int→Prop} {vs:List Int} {u d:Int} (h:Wl L S vs u d):∀x∈u::vs,∃vs1 d1 k d2,Wl L S vs1 x d1∧(x::vs1) <:+ (u::vs)∧Wk L u k x d2∧d=d1+d2∧k≤vs.length:=by
 induction h with
 | @nil v hv =>
  intro x hx;simp at hx;subst hx;exact⟨[],0,0,0,.nil hv,List.suffix_refl _,.nil,by omega,by simp⟩
 | @step vs u v m d hw hl ih =>
  intro x hx;rcases cM.1 hx with rfl|hx
  ·exact⟨u::vs,d+m,0,0,.step hw hl,List.suffix_refl _,.nil,by omega,by simp⟩
  ·obtain⟨vs1,d1,k,d2,g1,g2,g3,g4,g5⟩:=ih x hx;exact⟨vs1,d1,k+1,d2+m,g1,g2.trans (List.suffix_cons _ _),g3.snoc hl,by omega,by simp; omega⟩
def ZF (hS:jm L N) (hno:kF L N=false):∃(k:Nat) (v d:Int),1≤k∧k≤N∧(0≤v∧v<N)∧Wk L v k v d∧d<0:=by
 have hn:=hS.n60;apply Classical.byContradiction;intro hc
 have hcl:∀{k:Nat} {v d:Int},1≤k→k≤N→(0≤v∧v<N)→Wk L v k v d→0≤d:=fun {k v d} h1 h2 h3 h4=>by
  rcases gA d 0 with q|q
  ·exact absurd ⟨k,v,d,h1,h2,h3,h4,q⟩ hc
  ·exact q
 have hinr:∀l∈L,-4503599627370496≤l.2.2:=fun l hl=>(hS.most l hl).1
 let P:Int→Int→Prop:=fun v d=>∃vs,Wl L (fun u=>0≤u∧u<N) vs v d∧(v::vs).Nodup
 have hP:∀v:Int,0≤v∧v<N→∃d,P v d∧∀e,P v e→d≤e:=fun v hv=>aeG (B:=-(60*4503599627370496)) ⟨0,[],.nil hv,by simp⟩ (by
  rintro d ⟨vs,h1,h2⟩;have q1:=h1.lowM hinr;have q2:=h1.short hS.inr (fun w hw=>hw) h2
  have:((vs.length:Nat):Int)*4503599627370496≤60*4503599627370496:=by omega
  omega)
 have ho:kF L N=true:=by
  refine(kE hS.links (by omega)).2 ⟨fun v=>if hv:0≤v∧v<(N:Int) then Classical.choose (hP v hv) else 0,fun u v m hl=>?_⟩;have hr:=hS.inr _ hl;dsimp only at hr;obtain⟨⟨vs,hw,hnd⟩,hu2⟩:=Classical.choose_spec (hP u hr.1);obtain⟨_,hv2⟩:=Classical.choose_spec (hP v hr.2);have e1:(if hv:0≤u∧u<(N:Int) then Classical.choose (hP u hv) else 0)=Classical.choose (hP u hr.1):=dif_pos hr.1;have e2:(if hv:0≤v∧v<(N:Int) then Classical.choose (hP v hv) else 0)=Classical.choose (hP v hr.2):=dif_pos hr.2;dsimp only;rw[e1,e2];generalize Classical.choose (hP u hr.1)=a at *;generalize Classical.choose (hP v hr.2)=b at *
  by_cases hv:v∈u::vs
  ·obtain⟨vs1,d1,k,d2,g1,g2,g3,g4,g5⟩:=hw.cutK v hv;have hlen:=hw.short hS.inr (fun w hw=>hw) hnd;have:=hcl (by omega) (by omega) hr.2 (g3.snoc hl);have:=hv2 d1 ⟨vs1,g1,hnd.sublist g2.sublist⟩;omega
  ·have:=hv2 (a+m) ⟨u::vs,hw.step hl,eX.2 ⟨hv,hnd⟩⟩;omega
 rw[hno] at ho;cases ho
def lz (L:List Lk) (N:Nat) (k:Nat) (l:Lk):Bool:=decide (gv (exL L N l.1 k) l.2.1≠ş)&&decide (l.2.2+gv (exL L N l.1 k) l.2.1<0)
def aaw (hS:jm L N) (hno:kF L N=false):∃k,k<N∧∃l∈L,lz L N k l=true:=by
 have hn:=hS.n60;obtain⟨k,v,d,h1,h2,h3,h4,h5⟩:=ZF hS hno
 cases h4 with
 |nil=>omega
 | @step k v w m d hl hk =>
  have hr:=hS.inr _ hl;obtain⟨e1,e2⟩:=(Rt hS h3 k (by omega) w hr.2.1 hr.2.2).2 d hk;refine⟨k,by omega,(v,w,m),hl,?_⟩;simp only[lz,cG,decide_eq_true_eq];exact⟨e2,by omega⟩
def UU (hS:jm L N) {k:Nat} (hk:k<N) {l:Lk} (hl:l∈L) (hb:lz L N k l=true) :
 ∃q,nZ L (exL L N l.1) (fun n=>ilt n 0) (k+1) l.1 0 []=q∧q.length=k+1∧(∀i∈q,AG L i=false)∧Ş L q=0∧∃u s,AI L u 0 q=(u,s,true)∧s<0:=by
 have hn:=hS.n60;have hr:=hS.inr _ hl;simp only[lz,cG,decide_eq_true_eq] at hb;have hlim:=BD hS hr.1 k (by omega);obtain⟨_,i2,_⟩:=DY hS (B:=k*4503599627370496) (by omega) (by omega) hlim hr.1.1 hr.1.2 L (fun _ h=>h) (List.replicate N ş) (by simp) (KO (by omega));have h2:gv (exL L N l.1 (k+1)) l.1≤l.2.2+gv (exL L N l.1 k) l.2.1:=i2 l.2.1 l.2.2 hl hb.1
 have hne:gv (exL L N l.1 (k+1)) l.1≠ş:=fun h=>by rw[h] at h2; unfold ş at h2; omega
 obtain⟨q,q1,q2,q3,s,q4,q5⟩:=Lb hS hr.1 (fun n=>ilt n 0) (k+1) (by omega) l.1 0 [] hr.1.1 hr.1.2 hne (by rw[Int.zero_add]; exact decide_eq_true (by omega));rw[dI] at q1;have hs:s<0:=of_decide_eq_true q5;refine⟨q,q1,q2,q3,?_,l.1,s,q4,hs⟩
 have hany:q.any (AG L)=false:=by
  rw[dM]
  exact fun i hi=>by rw[q3 i hi]; simp
 cases q with
 |nil=>simp at q2
 |cons i t =>
  have hi:=q3 i (by simp);simp only[AG,gi,decide_eq_false_iff_not] at hi;have hg:L[i.toNat]?=some L[i.toNat]:=cE (by omega)
  have hfst:(L[i.toNat]?.getD (0,0,0)).1=l.1:=by
   unfold AI at q4
   by_cases h:(L[i.toNat]?.getD (0,0,0)).1=l.1
   ·exact h
   ·rw[if_neg h] at q4; simp at q4
  have hix:lg L (i::t)=0:=by
   unfold lg;rw[if_neg (by omega),hany];rfl
  unfold Ş;rw[hix,if_neg (by simp)];dsimp only;rw[hfst,q4];unfold YO;dsimp only;rw[if_pos ⟨rfl,rfl,hs⟩]
end
def XD {L:List Lk} {p:Int→Int} (hp:Pot L p):∀(l:List Int) (u s:Int),(∀i∈l,0≤i∧i.toNat<L.length)→(AI L u s l).2.2=true→p (AI L u s l).1-p u≤(AI L u s l).2.1-s
 |[],u,s,_,_=>by simp[AI]
 |i::t,u,s,hi,hw=>by
  have hx:=hi i (by simp);have hg:L[i.toNat]?=some L[i.toNat]:=List.getElem?_eq_getElem hx.2;have hm:=List.mem_of_getElem? hg;generalize L[i.toNat]=x at hg hm;unfold AI at hw ⊢;rw[hg] at hw ⊢;simp only[Option.getD_some] at hw ⊢
  split at hw
  ·rename_i hc;rw[if_pos hc];have h1:=hp x.1 x.2.1 x.2.2 hm;have h2:=XD hp t x.2.1 (s+x.2.2) (fun j hj=>hi j (by simp[hj])) hw;rw[hc] at h1;omega
  ·cases hw
section
variable {L:List Lk} {N:Nat}
def afa {ρ:Type} (c0:List (List Int)) (c6:List Lk):@xD ρ c0 c6=folM (fun n=>ilt n 0) c0 c6:=rfl
def wq (L:List Lk) (N:Nat):List (List (List Int)):=(List.range N).map fun(n:Nat)=>lQ L N n N
def Zk {L:List Lk} {N n:Nat} (h:n<N):(wq L N)[n]?=some (lQ L N n N):=by
 unfold wq;rw[List.getElem?_map,List.getElem?_range h];rfl
def Vv {ρ:Type} (hS:jm L N) (K:List (List (List Int))→Option ρ) :
 Ê (fun(v56:Int×List (List (List Int))) kk59=>nk (Ø (List.replicate N ([]:(Val (.slice (.slice tI)))))) (N:Int) L v56.1 v56.2 (fun u57 u58=>kk59 (u57,u58)) K) ((0:Int),(List.replicate N ([]:(Val (.slice (.slice tI))))))=K (wq L N):=by
 have hN:=hS.n60;refine ġ (List.replicate N ()) (fun i=>((List.range i).map fun(n:Nat)=>lQ L N n N)++List.replicate (N-i) ([]:List (List Int))) _ (by simp) (fun i a hi ha kn=>?_) (fun kn=>?_)
 ·try dsimp only
  unfold nk;rw[List.length_replicate] at hi;rw[Ñ,List.length_replicate,Ù (decide_eq_true (by omega)),ae0 hS ⟨by omega,by omega⟩ (by omega),À]
  have hlen:(((List.range i).map fun(n:Nat)=>lQ L N n N)++List.replicate (N-i) ([]:List (List Int))).length=N:=by simp; omega
  rw[show ì (((List.range i).map fun(n:Nat)=>lQ L N n N)++List.replicate (N-i) ([]:List (List Int)))=(N:Int) by unfold ì; rw[hlen],ż (by omega) (by omega),Int.toNat_natCast]
  have hget:(((List.range i).map fun(n:Nat)=>lQ L N n N)++List.replicate (N-i) ([]:List (List Int)))[i]?=some []:=by
   rw[fK (by simp),gI,if_pos (by simp; omega)]
  rw[iJ hget,Ô (by omega) (by omega)];congr 2;rw[f9 _ _ (by simp),fI,fo]
  have e:N-i=(N-(i+1))+1:=by omega
  rw[e,fS];simp
 ·try dsimp only
  unfold nk;rw[Ñ,List.length_replicate,List.length_replicate,Î (decide_eq_false (by omega))];unfold wq;simp
def Sw {ρ:Type} (hS:jm L N) {k:Nat} (hk:k<N) (k0:Unit→Option ρ) (k1:Int×List Int→Option ρ) (k2:Unit→Option ρ) :
 Ê (fun(v48:Int) kk50=>nh ((k:Int)+1) L (Ø L) (N:Int) L (wq L N) v48 (fun u49=>kk50 u49) k0 k1 k2) (0:Int) =
  match L.find? (lz L N k) with|some l=>k1 (0,nZ L (exL L N l.1) (fun n=>ilt n 0) (k+1) l.1 0 [])|none=>k2 ():=by
 have hN:=hS.n60;have hl3:=hS.len;rw[Ro];refine(iX L (lz L N k) (fun j=>match L[j.toNat]? with|some l=>k1 (0,nZ L (exL L N l.1) (fun n=>ilt n 0) (k+1) l.1 0 [])|none=>k2 ()) (k2 ()) (fun i l hi hl kn=>?_) (fun kn=>?_)).trans ?_
 ·try dsimp only
  unfold nh;have hm:=List.mem_of_getElem? hl;have hr:=hS.inr l hm;have hmo:=hS.most l hm
  have hto:((l.1.toNat:Nat):Int)=l.1:=by omega
  have hg:(wq L N)[l.1.toNat]?=some (lQ L N l.1 N):=by rw[Zk (by omega),hto]
  have hol:ì (wq L N)=(N:Int):=by simp[ì,wq]
  have hlim:=BD hS hr.1 k (by omega) l.2.1;rw[Ò hi,É hl,hol,ż hr.1.1 hr.1.2,iJ hg,show((k:Int)+1-1)=(k:Int) by omega,Ô (by omega) (by omega),É (FW (by omega)),vk hr.2.1 (by rw[W5]; omega)];unfold lz
  by_cases h1:gv (exL L N l.1 k) l.2.1=ş
  ·rw[Ù (beq_iff_eq.2 h1),Ë hi (by omega),if_neg (by simp[h1])]
  ·have hb:=hlim h1;rw[Î (beq_eq_false_iff_ne.2 h1),Ô (by omega) (by omega)]
   by_cases h2:l.2.2+gv (exL L N l.1 k) l.2.1<0
   ·rw[Î (decide_eq_false (by omega)),Î (decide_eq_false (by omega)),ż hr.1.1 hr.1.2,iJ hg,if_pos (by simp[h1,h2]),afa,cT,hl];have hex:∀j,j<k+1→(lQ L N l.1 N)[j]?=some (exL L N l.1 j):=fun j hj=>FW (by omega)
    have hx:∀j,j<k+1→Lim 900000000000000000 (exL L N l.1 j)∧(exL L N l.1 j).length=N:=fun j hj=>⟨fun w hw=>by
     have:=BD hS hr.1 j (by omega) w hw; omega,W5 _ _⟩
    have:=agR hS (fun n=>ilt n 0) (rest:=lQ L N l.1 N) (R:=exL L N l.1) (k0:=k+1) (by omega) hex hx l.1 (fun z=>k1 (0,z));rw[show(((k+1:Nat):Int))=(k:Int)+1 by push_cast; rfl] at this;exact this
   ·rw[Ù (decide_eq_true (by omega)),Ë hi (by omega),if_neg (by simp[h1,h2])]
 ·try dsimp only
  unfold nh;rw[â]
 ·cases h:L.findIdx? (lz L N k) with
  |none=>rfl
  |some j=>dsimp only; rw[Int.toNat_natCast]
def adR (hS:jm L N) (hno:kF L N=false):∃(K:Nat) (l:Lk),K<N∧(∀k,k<K→∀x∈L,lz L N k x=false)∧L.find? (lz L N K)=some l∧nF ((N:Int),L)=some (nZ L (exL L N l.1) (fun n=>ilt n 0) (K+1) l.1 0 [],0):=by
 have hN:=hS.n60;obtain⟨K0,hK0,l0,hl0,hb0⟩:=aaw hS hno
 -- the first number of links
 have hex:∃K,K≤K0∧(∃l∈L,lz L N K l=true)∧∀k,k<K→∀x∈L,lz L N k x=false:=by
  have:∀n:Nat,(∀k,k<n→∀x∈L,lz L N k x=false)∨∃K,K<n∧(∃l∈L,lz L N K l=true)∧∀k,k<K→∀x∈L,lz L N k x=false:=by
   intro n
   induction n with
   |zero=>exact .inl fun k hk=>by omega
   |succ n ih =>
    rcases ih with h|⟨K,h1,h2⟩
    ·by_cases hx:∃l∈L,lz L N n l=true
     ·exact .inr ⟨n,by omega,hx,h⟩
     ·refine .inl fun k hk x hxm=>?_;rcases fW (Nat.le_of_lt_succ hk) with h1|rfl
      ·exact h k h1 x hxm
      ·exact d8.2 fun e=>hx ⟨x,hxm,e⟩
    ·exact .inr ⟨K,by omega,h2⟩
  rcases this (K0+1) with h|⟨K,h1,h2,h3⟩
  ·have:=h K0 (by omega) l0 hl0;rw[hb0] at this; cases this
  ·exact⟨K,by omega,h2,h3⟩
 obtain⟨K,hK,⟨l1,hl1,hb1⟩,hfirst⟩:=hex
 obtain⟨l,hl⟩:∃l,L.find? (lz L N K)=some l:=by
  cases h:L.find? (lz L N K) with
  |none=>have:=d9.1 h l1 hl1; exact absurd hb1 this
  |some l=>exact⟨l,rfl⟩
 refine⟨K,l,by omega,hfirst,hl,?_⟩;unfold nF C9;rw[lC hS,À,Î (by rfl),tZ hS.links hS.n1 (by omega),À,if_neg (by simp[hno]),Î (by rfl),okN (by omega),Int.toNat_natCast];refine(Vv hS _).trans ?_;refine ĕ (fun v=>∃k:Nat,k≤K∧v=(k:Int)+1) (fun v=>(K+2)-v.toNat) ?_ ⟨0,by omega,rfl⟩;rintro v ⟨k,hk,rfl⟩;rcases Nat.lt_or_eq_of_le hk with h|rfl
 ·refine .inr ⟨((k+1:Nat):Int)+1,⟨k+1,h,rfl⟩,by omega,fun kn=>?_⟩;unfold qQ;refine(Sw hS (by omega) _ _ _).trans ?_
  have hnone:L.find? (lz L N k)=none:=d9.2 fun x hx=>by rw[hfirst k h x hx]; simp
  rw[hnone];dsimp only;rw[Ô (by omega) (by omega)];congr 1
 ·refine .inl fun kn=>?_;unfold qQ;refine(Sw hS (by omega) _ _ _).trans ?_;rw[hl]
end
def aa9 (L:List Lk) (N:Nat):List (Int×Int):=(List.range N).map fun(n:Nat)=>(-(dst L N n 0),dst L N 0 n)
section
variable {L:List Lk} {N:Nat}
def Zo {n:Nat} (h:n<N):(aa9 L N)[n]?=some (-(dst L N n 0),dst L N 0 n):=by
 unfold aa9;rw[List.getElem?_map,List.getElem?_range h];rfl
def afy (hS:jm L N) (ht:Xu L N) (ho:kF L N=true):tJ ((N:Int),L)=some (aa9 L N,0):=by
 have hN:=hS.n60;have hN1:=hS.n1;unfold tJ J2;rw[afu hS (fun n hn=>by simp at hn) (by simp),À,if_pos ho,Î (by rfl),U6 hS.links hS.n1 (by omega) ho ⟨by omega,by omega⟩,À,okN (by omega),Int.toNat_natCast];have hlen0:(yh L N 0).length=N:=LL 0;refine ġ (List.replicate N ()) (fun i=>((List.range i).map fun(n:Nat)=>dst L N n 0)++List.replicate (N-i) (0:Int)) _ (by simp) (fun i a hi ha kn=>?_) (fun kn=>?_)
 ·try dsimp only
  unfold qP;rw[List.length_replicate] at hi;rw[Ñ,List.length_replicate,Ù (decide_eq_true (by omega)),U6 hS.links hS.n1 (by omega) ho ⟨by omega,by omega⟩,À,vk (by omega) (by rw[LL]; simp; omega)]
  have hlen:(((List.range i).map fun(n:Nat)=>dst L N n 0)++List.replicate (N-i) (0:Int)).length=N:=by simp; omega
  rw[show ì (((List.range i).map fun(n:Nat)=>dst L N n 0)++List.replicate (N-i) (0:Int))=(N:Int) by unfold ì; rw[hlen],ż (by omega) (by omega),Int.toNat_natCast]
  have hget:(((List.range i).map fun(n:Nat)=>dst L N n 0)++List.replicate (N-i) (0:Int))[i]?=some 0:=by
   rw[fK (by simp),gI,if_pos (by simp; omega)]
  rw[iJ hget,Ô (by omega) (by omega)];congr 2;rw[f9 _ _ (by simp),fI,fo]
  have e:N-i=(N-(i+1))+1:=by omega
  rw[e,fS];simp[dst]
 ·try dsimp only
  unfold qP;rw[Ñ,List.length_replicate,List.length_replicate,Î (decide_eq_false (by omega))]
  have e0:((List.range N).map fun(n:Nat)=>dst L N n 0)++List.replicate (N-N) (0:Int)=(List.range N).map fun(n:Nat)=>dst L N n 0:=by simp
  rw[e0];refine ġ (List.replicate N ()) (fun i=>(List.range i).map fun(n:Nat)=>(-(dst L N n 0),dst L N 0 n)) _ (by simp) (fun i a hi ha kn=>?_) (fun kn=>?_)
  ·try dsimp only
   unfold qO;rw[List.length_replicate] at hi
   have hget:((List.range N).map fun(n:Nat)=>dst L N n 0)[i]?=some (dst L N i 0):=by
    rw[eD,fT hi]; rfl
   have hb:=dst_bd hS ht ho (s:=(i:Int)) (t:=0) ⟨by omega,by omega⟩ ⟨by omega,by omega⟩;rw[Ñ,hlen0,Ù (decide_eq_true (by omega)),show ì ((List.range N).map fun(n:Nat)=>dst L N n 0)=(N:Int) by simp[ì],ż (by omega) (by omega),cT,iJ hget,Ô (by omega) (by omega),vk (by omega) (by rw[hlen0]; simp; omega),ð (Ó (by simp only[dE,fL,dH]; omega)),Ô (by omega) (by omega),Int.zero_sub];congr 2;rw[fI,fo];rfl
  ·try dsimp only
   unfold qO;rw[Ñ,hlen0,List.length_replicate,Î (decide_eq_false (by omega))];rfl
end
abbrev nT (m:ń) (w:Way):Nat:=(Ú (trP m w)).length+1
abbrev sT (m:ń) (w:Way):List Lk:=iY (trP m w)
def AD (L:List Lk) (N:Nat):List Int:=((nF ((N:Int),L)).getD ([],0)).1
def UV {L:List Lk} {N:Nat} (hS:jm L N) (hno:kF L N=false):nF ((N:Int),L)=some (AD L N,0)∧Ş L (AD L N)=0∧(AD L N).length≤N:=by
 obtain⟨K,l,h1,_,h3,h4⟩:=adR hS hno;obtain⟨q,q1,q2,_,q4,_⟩:=UU hS h1 (fj h3) (fV h3)
 have e:AD L N=q:=by unfold AD; rw[h4,q1]; rfl
 rw[e];exact⟨by rw[h4,q1],q4,by omega⟩
section
variable {m:ń} {w:Way} {ρ:Type}
def XK (n:Nat):(((n:Int)+1,iY (trP m w)):Sys)=(((n+1:Nat):Int),iY (trP m w)):=by simp
def Zb (m:ń):List (List Int)×Int:=if ė m≠0 then([],ė m) else if Ō m then([],5) else((Œ m.2).map fun w=>AD (sT m w) (nT m w),0)
def afB (hs:In m.1) (hn:m.2.length≤1000):D6 m=some (Zb m):=by
 unfold D6 JM Zb;rw[jl hs hn,À]
 by_cases hc:ė m=0
 ·have h:=(Ģ m).1 hc;have hl2:=tW h;have hm:((((m.1.1.1,m.1.1.2),m.1.2.1,m.1.2.2.1,m.1.2.2.2.1,m.1.2.2.2.2.1,m.1.2.2.2.2.2),m.2):ń)=m:=rfl;rw[Î (by simp[ine,hc]),if_neg (by simp[hc]),Ix h,À];refine KN (Œ m.2) (fun i=>((Œ m.2).take i).map fun w=>AD (sT m w) (nT m w)) _ (fun i=>∀w∈(Œ m.2).take i,lF m w=false) rfl (fun w hw=>by simp at hw) (fun i x hi hx hp kn=>?_) (fun hp kn=>?_)
  ·try dsimp only
   unfold qJ;have hg:=rD h (rC hx);rw[Ò hi,É hx,hm,qd h (rC hx),À,LV h (rC hx),À];dsimp only;rw[XK]
   cases he:lF m x with
   |true =>
    refine .inl ?_;rw[aaf hg.sys he,À];have:Ō m=true:=dg.2 ⟨x,cN hx,he⟩;rw[this]; rfl
   |false =>
    refine .inr ⟨fun w hw=>?_,?_⟩
    ·rw[take_succ hx] at hw;rcases cJ.1 hw with hw|hw
     ·exact hp w hw
     ·rw[cO.1 hw]; exact he
    ·rw[(UV hg.sys he).1,À,Î (by rfl),ð (Ó (by simp; omega)),Ë hi (by omega),take_succ hx,fo]; rfl
  ·rw[fF] at hp
   try dsimp only
   unfold qJ
   have:Ō m=false:=dM.2 fun w hw=>by rw[show lF m w=false from hp w hw]; simp
   rw[â,fF,this]; rfl
 ·rw[Ù (by simp[ine,hc]),if_pos hc]
def vx (m:ń) (chains:List (List Int)):Bool:=(List.range (Œ m.2).length).all fun i=>match (Œ m.2)[i]?,chains[i]? with|some w,some c=>decide (Ş (sT m w) c=0)|_,_=>false
def mB (m:ń) (chains:List (List Int)):Int:=if ė m≠0 then ė m else if chains.length≠(Œ m.2).length then 8 else if vx m chains then 0 else 8
def Er (hs:In m.1) (hn:m.2.length≤1000) (chains:List (List Int)):jJ m chains=some (mB m chains):=by
 unfold jJ rJ mB;rw[jl hs hn,À]
 by_cases hc:ė m=0
 ·have h:=(Ģ m).1 hc;have hl2:=tW h;have hm:((((m.1.1.1,m.1.1.2),m.1.2.1,m.1.2.2.1,m.1.2.2.2.1,m.1.2.2.2.2.1,m.1.2.2.2.2.2),m.2):ń)=m:=rfl;rw[Î (by simp[ine,hc]),if_neg (by simp[hc]),Ix h,À]
  by_cases hl:chains.length=(Œ m.2).length
  ·rw[Î (by simp[ine,Ñ]; omega),if_neg (by simp[hl])];refine eI (Ym (Œ m.2).length (fun i=>match (Œ m.2)[i]?,chains[i]? with|some w,some c=>decide (Ş (sT m w) c=0)|_,_=>false) (some 8) (some 0) (fun i hi kn=>?_) (fun kn=>?_)) ?_
   ·have hx:(Œ m.2)[i]?=some (Œ m.2)[i]:=cE hi;have hx2:chains[i]?=some chains[i]:=cE (by omega)
    try dsimp only
    unfold jd;rw[Ò hi,É hx,hm,qd h (rC hx),À,LV h (rC hx),À,É hx2];dsimp only;rw[XK,NJ (rD h (rC hx)).sys,À,hx,hx2,Č,Ë hi (by omega)];dsimp only
    by_cases he:Ş (sT m (Œ m.2)[i]) chains[i]=0
    ·rw[if_neg (by simp[ine,he]),if_pos (by simpa using he)]
    ·rw[if_pos (by simp[ine,he]),if_neg (by simpa using he)]
   ·try dsimp only
    unfold jd;rw[â]
   ·unfold vx
    cases(List.range (Œ m.2).length).all fun i=>match (Œ m.2)[i]?,chains[i]? with|some w,some c=>decide (Ş (sT m w) c=0)|_,_=>false<;>rfl
  ·rw[Ù (by simp[ine,Ñ]; omega),if_pos hl]
 ·rw[Ù (by simp[ine,hc]),if_pos hc]
def WhoP (m:ń) (w:Way) (x d:Int):Int×Int:=if LP m w≠0 then(0,LP m w) else if xQ m.1 x d≠0 then(0,xQ m.1 x d) else(iM m.2 w x d,0)
def ahk (hs:In m.1) (hn:m.2.length≤1000) (hw:∀l∈w,l.length≤100000) (x d:Int):Rp m w x d=some (WhoP m w x d):=by
 unfold Rp Wc WhoP;rw[adE hs hn hw,À]
 by_cases hc:LP m w=0
 ·obtain⟨h,ho⟩:=Xr.1 hc;rw[Î (by simp[ine,hc]),if_neg (by simp[hc]),Ra hs.size.gauges,À]
  by_cases hk:xQ m.1 x d=0
  ·rw[Î (by simp[ine,hk]),if_neg (by simp[hk]),h.who ho]; rfl
  ·rw[Ù (by simp[ine,hk]),if_pos hk]
 ·rw[Ù (by simp[ine,hc]),if_pos hc]
def Y7 (m:ń) (x:Mx):ń:=(m.1,m.2++[x])
abbrev mix0:ń:=(aav,[])
def Y9 (m:ń) (x:Mx):ń×Int:=if ė m≠0 then(mix0,ė m) else if ė (Y7 m x)≠0 then(mix0,ė (Y7 m x)) else(Y7 m x,0)
def afw (hs:In m.1) (hn:m.2.length≤1000) {x:Mx} (hx:x.2.length≤1000):D5 m x=some (Y9 m x):=by
 unfold D5 P2 Y9;rw[jl hs hn,À]
 by_cases hc:ė m=0
 ·have h:=(Ģ m).1 hc;have h4:=h.n4
  have hcp:yK m.1=some m.1:=by
   unfold yK EV;rw[aax hs (by simp),À,RS,if_neg (by simp[(ś _).2 h.good])];unfold less;rw[List.filter_eq_self.2 (by simp)]
  rw[Î (by simp[ine,hc]),if_neg (by simp[hc]),hcp,À,ð (Ó (by omega)),ð (Ó (by simp; omega))]
  have hl5:∀y∈m.2++[x],y.2.length≤1000:=fun y hy=>by
   rcases cJ.1 hy with hy|hy
   ·have:=h.len5 y hy; omega
   ·rw[cO.1 hy]; exact hx
  refine ġ (m.2++[x]) (fun i=>(m.2++[x]).take i) _ rfl (fun i y hi hy kn=>?_) (fun kn=>?_)
  ·try dsimp only
   unfold uu;have:=hl5 y (List.mem_of_getElem? hy);rw[List.length_append,List.length_singleton] at hi;rw[Ñ,List.length_append,List.length_singleton,Ù (by simp[ilt]; omega),show ì (m.2++[x])=((m.2.length+1:Nat):Int) by simp[ì],Ī hi,ò hy,ð (Ó (by omega)),ð (Ó (by simp; omega)),Ô (by omega) (by omega),take_succ hy]
  ·try dsimp only
   unfold uu;rw[â,List.take_length];dsimp only;rw[show((m.1,m.2++[x]):ń)=Y7 m x from rfl,show ŗ (Y7 m x)=_ from jl (m:=Y7 m x) hs (by simp[Y7]; omega),À]
   by_cases hc2:ė (Y7 m x)=0
   ·rw[Î (by simp[ine,hc2]),if_neg (by simp[hc2])]
   ·rw[Ù (by simp[ine,hc2]),if_pos hc2]; rfl
 ·rw[Ù (by simp[ine,hc]),if_pos hc]; rfl
def KQ (b:ę) (n:Int×Int):(Int×Int)×Int:=if (za b n).2≠0 then((0,0),(za b n).2) else(ivR (za b n).1 n,0)
def aa3 {b:ę} (h:Room b) {n:Int×Int} (e:(za b n).2=0):Room (za b n).1∧Zc (za b n).1 n:=by
 rcases aa4 e with⟨h1,h2⟩|⟨h1,h2,_⟩
 ·rw[h1];exact⟨h,(Rg h.good).1 h2⟩
 ·rw[h1];refine⟨⟨h2,?_,h.num⟩,ab4 n h2⟩;obtain⟨f,z,hh⟩:=(Ci h.good).1 h.op;exact(Ci h2).2 ⟨f,z,ab5.2 hh⟩
def KP {B:ę} (h:Room B) {n:Int×Int} (hn:Zc B n) (K:(Int×Int)×Int→Option ρ) :
 (Ã (pL B n) fun r3=>Ã (iD B) fun r4=>Ã (tJ r4.1) fun r5=>ifb (ine r5.2 (0:Int)) (K (((0:Int),(0:Int)),r5.2)) (Ĭ r5.1 r3.1 fun e6=>K (e6,(0:Int))))=K (ivR B n,0):=by
 have hI:In B:=⟨h.good.size,h.num⟩;have hi:=(Rg h.good).2 hn;have hr:=agM B n;have hsp:=afy h.good.sys h.good.tied h.op;rw[L2 hI,À,L1,if_neg (by simp[(ś _).2 h.good]),if_neg hi,Ve hI,À,RU,if_neg (by simp[(ś _).2 h.good])];dsimp only;rw[show((((Ú B).length:Int)+1,iY B):Sys)=((((Ú B).length+1:Nat):Int),iY B) by simp,hsp,À,Î (by rfl)];obtain⟨k,hk⟩:∃k:Nat,Vo B n.1 n.2=k:=⟨(Vo B n.1 n.2).toNat,by omega⟩;rw[hk,É (Zo (by omega))];unfold ivR dstR;rw[hk]
def ach {b:ę} (h:Room b) (n:Int×Int):yJ b n=some (KQ b n):=by
 have hI:In b:=⟨h.good.size,h.num⟩;have hc:=(ś _).2 h.good;unfold yJ ES KQ;rw[L2 hI,À]
 by_cases hi:Vo b n.1 n.2=0
 ·have e1:(L1 b n).2=5:=by unfold L1; rw[if_neg (by simp[hc]),if_pos hi]
  rw[Ù (by simp[ine,e1]),ahn hI,À,aho,if_neg (by simp[hc])]
  by_cases h2:Ř (rS b n)=0
  ·have e:za b n=(rS b n,0):=by unfold za; rw[if_neg (by simp[hi]),if_neg (by simp[h2])]
   obtain⟨r1,r2⟩:=aa3 h (n:=n) (by rw[e]);rw[e] at r1 r2;rw[if_neg (by simp[h2]),Î (by rfl),KP r1 r2,e,if_neg (by simp)]
  ·have e:za b n=(aav,Ř (rS b n)):=by unfold za; rw[if_neg (by simp[hi]),if_pos h2]
   rw[if_pos h2,Ù (by simp[ine,h2]),e,if_pos h2]
 ·have e1:(L1 b n).2=0:=by unfold L1; rw[if_neg (by simp[hc]),if_neg hi]
  have e:za b n=(b,0):=by unfold za; rw[if_pos hi]
  rw[Î (by simp[ine,e1]),←L2 hI,KP h ((Rg h.good).1 hi),e,if_neg (by simp)]
def acB {α β:Type} {f:α→Option β}:∀{l:List α} {i:Nat} {x:α} {e:β},l[i]?=some x→(∀w∈l.take i,f w=none)→f x=some e→l.findSome? f=some e
 |[],_,_,_,h,_,_=>by simp at h
 |y::l,0,x,e,h,_,he=>by simp at h; subst h; rw[gu,he]
 |y::l,i+1,x,e,h,hp,he=>by
  rw[gu,hp y (by simp)];exact acB (by simpa using h) (fun w hw=>hp w (by simp[hw])) he
abbrev Fnd:=List (Int×(Int×Int))
def hullP (s t:Int×Int):Int×Int:=(min s.1 t.1,max s.2 t.2)
def agT (m:ń) (label d:Int) (M:Fnd) (w:Way):Fnd :=
 Oe (k:=tI) (v:=Ä) (iM m.2 w label d) (match qm (k:=tI) (v:=Ä) (iM m.2 w label d) M with|some s=>hullP (KQ (trP m w) (iM m.2 w label d,d)).1 s|none=>(KQ (trP m w) (iM m.2 w label d,d)).1) M
def DW (m:ń) (label d:Int) (l:List Way):Fnd:=l.foldl (agT m label d) []
def ad0 (m:ń) (label d:Int) (w:Way):Int:=(KQ (trP m w) (iM m.2 w label d,d)).2
def Xw (m:ń) (label d:Int):List (Int×Int×Int)×Int :=
 if ė m≠0 then([],ė m) else if xQ m.1 label d≠0 then([],xQ m.1 label d) else if rY m=[] then([],5) else
 match (rY m).findSome? fun w=>Z6 (ad0 m label d w) with
 |some e=>([],e)
 |none=>(m.1.2.1.filterMap fun g=>(qm (k:=tI) (v:=Ä) g.1 (DW m label d (rY m))).map fun s=>(g.1,s),0)
def Yy (hw:w∈rY m):Ŋ m.2 w∧lF m w=true:=by
 obtain⟨h1,h2⟩:=dG.1 hw;exact⟨mM.1 h1,h2⟩
def aeS (h:MOk m):(rY m).length≤150:=cW (dW _ _) (tW h)
def ags (h:MOk m) (hw:Ŋ m.2 w) (he:lF m w=true):Room (trP m w):=⟨rD h hw,he,h.in_.num⟩
def adN (hs:In m.1) (hn:m.2.length≤1000) (label d:Int):yL m label d=some (Xw m label d):=by
 unfold yL E7 Xw;rw[jl hs hn,À]
 by_cases hc:ė m=0
 ·have h:=(Ģ m).1 hc;have hG:=hs.size.gauges;have hgl:=aeS h;rw[Î (by simp[ine,hc]),if_neg (by simp[hc]),Ra hG,À]
  by_cases hk:xQ m.1 label d=0
  ·rw[Î (by simp[ine,hk]),if_neg (by simp[hk]),acu h,À]
   by_cases hnil:rY m=[]
   ·rw[Ù (by simp[ieq,Ñ,hnil]),if_pos hnil]
   ·have:(rY m).length≠0:=fun e=>hnil (cX.1 e);rw[Î (by simp[ieq,Ñ,hnil]),if_neg hnil];have key:∀(l:List Way),(∀w∈l,Z6 (ad0 m label d w)=none)→l.findSome? (fun w=>Z6 (ad0 m label d w))=none:=fun l hl=>List.findSome?_eq_none_iff.2 hl;refine KN (rY m) (fun i=>DW m label d ((rY m).take i)) _ (fun i=>∀w∈(rY m).take i,Z6 (ad0 m label d w)=none) rfl (fun w hw=>by simp at hw) (fun i x hi hx hp kn=>?_) (fun hp kn=>?_)
    ·obtain⟨x1,x2⟩:=Yy (cN hx);have hroom:=ags h x1 x2
     try dsimp only
     unfold ov;rw[Ò hi,É hx,show((((m.1.1.1,m.1.1.2),m.1.2.1,m.1.2.2.1,m.1.2.2.2.1,m.1.2.2.2.2.1,m.1.2.2.2.2.2),m.2):ń)=m from rfl,h.who x1,À,qd h x1,À,ach hroom,À]
     by_cases he:ad0 m label d x=0
     ·refine .inr ⟨fun w hw=>?_,?_⟩
      ·rw[take_succ hx] at hw;rcases cJ.1 hw with hw|hw
       ·exact hp w hw
       ·rw[cO.1 hw,he]; rfl
      ·unfold ad0 at he
       have hst:DW m label d ((rY m).take (i+1))=agT m label d (DW m label d ((rY m).take i)) x:=by rw[take_succ hx,DW,List.foldl_append]; rfl
       rw[Î (by simp[ine,he]),hst];unfold agT L5
       cases qm (k:=tI) (v:=Ä) (iM m.2 x label d) (DW m label d ((rY m).take i)) with
       |none=>dsimp only; rw[Ë hi (by omega)]
       |some s =>
        dsimp only;rw[Ë hi (by omega),WT,acq]; rfl
     ·refine .inl ?_
      have hfs:(rY m).findSome? (fun w=>Z6 (ad0 m label d w))=some (ad0 m label d x):=by
       exact acB hx hp (by simp[Z6,he])
      rw[hfs];unfold ad0 at he ⊢;rw[Ù (by simp[ine,he])]
    ·rw[fF] at hp
     try dsimp only
     unfold ov;rw[â,key _ hp,List.take_length];dsimp only;refine ġ m.1.2.1 (fun i=>(m.1.2.1.take i).filterMap fun g=>(qm (k:=tI) (v:=Ä) g.1 (DW m label d (rY m))).map fun s=>(g.1,s)) _ rfl (fun i g hi hg kn'=>?_) (fun kn'=>?_)
     ·try dsimp only
      unfold ou;have hle:((m.1.2.1.take i).filterMap fun g=>(qm (k:=tI) (v:=Ä) g.1 (DW m label d (rY m))).map fun s=>(g.1,s)).length≤1000:=Nat.le_trans (List.length_filterMap_le _ _) (by rw[List.length_take]; omega);rw[Ò hi,É hg,take_succ hg,List.filterMap_append];unfold L5
      cases hmg:qm (k:=tI) (v:=Ä) g.1 (DW m label d (rY m)) with
      |none=>simp only[List.filterMap_cons,hmg,Option.map_none,List.filterMap_nil,df]; rw[Ë hi (by omega)]
      |some s =>
       simp only[List.filterMap_cons,hmg,dK,List.filterMap_nil];rw[ð (Ó (by rw[dH]; omega)),Ë hi (by omega)]
     ·try dsimp only
      unfold ou;rw[â,List.take_length]
  ·rw[Ù (by simp[ine,hk]),if_pos hk]
 ·rw[Ù (by simp[ine,hc]),if_pos hc]
end
def abY {ρ α:Type} [DecidableEq α] {l m:List α} (hl:l.length=m.length) (K:Bool→Option ρ) {f:Int→(Int→Option ρ)→Option ρ}
 (h:∀(i:Nat) (a b:α),i<l.length→l[i]?=some a→m[i]?=some b→∀kn,f i kn=if a=b then kn ((i:Int)+1) else K false) (hn:∀kn,f l.length kn=K true):Ê f 0=K (decide (l=m)):=by
 refine eI (mj l (fun i a=>if m[i]?=some a then none else some false) K (K true) (fun i a hi ha kn=>?_) hn) ?_
 ·have hm:m[i]?=some m[i]:=cE (by omega);rw[h i a _ hi ha hm,hm]
  by_cases he:a=m[i]
  ·simp[he]
  ·have:¬m[i]=a:=fun e=>he e.symm;simp[he,this]
 ·cases h:Ň (fun i a=>if m[i]?=some a then none else some false) 0 l with
  |none=>simp[Sy hl h]
  |some b =>
   obtain⟨h1,h2⟩:=Sx h;simp[h1,h2]
def aaz {a b:Way} (hn:a.length≤1000000) (hl:∀l∈a,l.length≤1000000):rq a b=some (decide (a=b)):=by
 unfold rq xq;rw[Ñ,Ñ]
 by_cases he:a.length=b.length
 ·rw[Î (by simp[ine,he])];refine abY he some (fun i x y hi hx hy kn=>?_) (fun kn=>?_)
  ·try dsimp only
   unfold kY;rw[Ò hi,É hx,É hy,LX (hl x (List.mem_of_getElem? hx)),À,Ë hi (by omega),Č]
   by_cases h:x=y<;>simp[h]
  ·try dsimp only
   unfold kY;rw[â]
 ·rw[Ù (by simp[ine]; omega)];have:a≠b:=fun e=>he (by rw[e]);simp[this]
def ac7 {L:List Lk} {p:Int→Int} (hp:Pot L p) (c:List Int):Ş L c≠0:=by
 unfold Ş
 by_cases h2:lg L c=0
 case neg=>rw[if_pos h2]; exact h2
 rw[if_neg (by simp[h2])];have hi:=(WV h2).2
 cases c with
 |nil=>exact(by decide:(8:Int)≠0)
 |cons i t =>
  dsimp only;unfold YO
  split
  ·rename_i h3;have:=XD hp (i::t) (L[i.toNat]?.getD (0,0,0)).1 0 hi h3.1;rw[h3.2.1] at this;have:=h3.2.2;omega
  ·decide
def ac6 {m:ń} {w:Way} (h:MOk m) (hw:Ŋ m.2 w) {c:List Int} (hc:Ş (sT m w) c=0):lF m w=false:=by
 rw[d8];intro he;have hg:=rD h hw;have hn:=hg.sys.n60;obtain⟨p,hp⟩:=(kE hg.sys.links (by omega)).1 he;exact ac7 hp c hc
def abt {m:ń} (h:MOk m) {chains:List (List Int)} (hc:vx m chains=true):∀w∈Œ m.2,lF m w=false:=by
 intro w hw;obtain⟨i,hi,rfl⟩:=cR.1 hw;have:=dh.1 hc i (gb.2 hi);rw[cE hi] at this
 cases hx:chains[i]? with
 |none=>rw[hx] at this; cases this
 |some c =>
  rw[hx] at this;exact ac6 h (mM.1 hw) (of_decide_eq_true this)
def SI {m:ń} (h:MOk m) (hs:Ō m=false):vx m ((Œ m.2).map fun w=>AD (sT m w) (nT m w))=true:=by
 refine dh.2 fun i hi=>?_;rw[gb] at hi;have hx:(Œ m.2)[i]?=some (Œ m.2)[i]:=cE hi;have hw:(Œ m.2)[i]∈Œ m.2:=fe hi;rw[eD,hx];have he:=dM.1 hs _ hw;exact decide_eq_true (UV (rD h (mM.1 hw)).sys (d8.2 he)).2.1
def exM (l:List Cmp):ń:=(((0,2),[(1,0,1000,(-5,5),(1,10),1),(2,0,1000,(-50,50),(1,4),0),(3,0,1100,(-1,1),(0,1),0)],[(1,10)],[(1,(20,29),3)],(7,10,[1],[2],-20,1,100,200)::l,[]),[(12,[2,3])])
def ex8:Cmp:=(8,15,[2],[1],100,1,0,0)
def ex9:Cmp:=(9,15,[3],[],1100,0,0,0)
def acJ {l:List Cmp} (hl:l.length≤10) (hp:∀c∈l,c.2.2.1.length≤10∧c.2.2.2.1.length≤10):In (exM l).1:=by
 refine⟨⟨by simp[exM],by simp[exM],by simp[exM],by simp[exM]; omega,by simp[exM],fun c hc=>?_⟩,fun g hg=>?_⟩
 ·rcases cM.1 (show c∈(7,10,[1],[2],-20,1,100,200)::l from hc) with rfl|hc
  ·exact⟨by decide,by decide⟩
  ·have:=hp c hc; omega
 ·simp only[exM,cM,gj,or_false] at hg
  rcases hg with rfl|rfl|rfl<;>exact⟨by decide,by decide⟩
def w0:ė (exM [])=0∧ė (exM [ex8])=0∧ė (exM [ex8,ex9])=0:=by decide +kernel
def w1:Œ (exM []).2=[[[2,3]],[[3,2]]]:=by decide +kernel
def w2:rY (exM [])=[[[2,3]],[[3,2]]]:=by decide +kernel
def w3:BF (exM [ex8])=([[3,2]],0):=by decide +kernel
def w4:Xw (exM [ex8]) 2 15=([(3,1099,1101)],0):=by decide +kernel
def w5:adP (exM [ex8,ex9])=([8,9],0):=by decide +kernel
def w6:Vf (exM [ex8,ex9]) [7,8,9]=([8,9],0):=by decide +kernel
def w7:Gc (exM [ex8,ex9]) 2=(false,0):=by decide +kernel
def w8:Ō (exM [ex8,ex9])=false:=by decide +kernel
def w9:WhoP (exM [ex8,ex9]) [[3,2]] 2 13=(3,0):=by decide +kernel
def Zr:ir=some true:=by
 have i0:In (exM []).1:=acJ (by decide) (by simp);have i1:In (exM [ex8]).1:=acJ (by decide) (by decide);have i2:In (exM [ex8,ex9]).1:=acJ (by decide) (by decide)
 have n:∀l,(exM l).2.length≤1000:=fun l=>by simp[exM]
 have h0:=(Ģ _).1 w0.1;have h2:=(Ģ _).1 w0.2.2;have e0:Ŭ []=some (exM []):=rfl;have e1:Ŭ [((8:Int),(15:Int),[(2:Int)],[(1:Int)],(100:Int),(1:Int),(0:Int),(0:Int))]=some (exM [ex8]):=rfl;have e2:Ŭ [((8:Int),(15:Int),[(2:Int)],[(1:Int)],(100:Int),(1:Int),(0:Int),(0:Int)),((9:Int),(15:Int),[(3:Int)],[],(1100:Int),(0:Int),(0:Int),(0:Int))]=some (exM [ex8,ex9]):=rfl
 have hp:Zb (exM [ex8,ex9])=((Œ (exM [ex8,ex9]).2).map (fun w=>AD (sT (exM [ex8,ex9]) w) (nT (exM [ex8,ex9]) w)),0):=by
  unfold Zb; rw[if_neg (by simp[w0.2.2]),w8]; rfl
 have c1:mB (exM [ex8,ex9]) ((Œ (exM [ex8,ex9]).2).map fun w=>AD (sT (exM [ex8,ex9]) w) (nT (exM [ex8,ex9]) w))=0:=by
  unfold mB;rw[if_neg (by simp[w0.2.2]),if_neg (by simp),SI h2 w8]; rfl
 have c2:∀c,mB (exM []) c=8:=fun c=>by
  unfold mB;rw[if_neg (by simp[w0.1])]
  split
  ·rfl
  ·rw[if_neg];intro hc;have:=abt h0 hc [[2,3]] (by rw[w1]; simp)
   have h3:[[2,3]]∈rY (exM []):=by rw[w2]; simp
   rw[(Yy h3).2] at this;cases this
 unfold ir AY;rw[e0,À,ahl i0 (n _),À,if_neg (by simp[w0.1]),À,All_ok i0 (n _),À,if_neg (by simp[w0.1]),e1,À,LY i1 (n _),À,À,adN i1 (n _),À,e2,À,adO i2 (n _),À,LW i2 (n _) (by simp),À,Vd i2 (n _),À,w1,w2,w3,w4,w5,w6,w7];rw[afB i2 (n _),À,hp,Î (by rfl),Î (by rfl),Î (by rfl),Î (by rfl),Î (by rfl),Î (by rfl),Î (by rfl),Î (by simp[ine,Ñ]),Î (by simp[ine,Ñ]),Î (by rfl)];rw[show ∀f:Way→Option Bool,Ĭ [[[2,3]],[[3,2]]] (1:Int) f=f [[3,2]] from fun f=>rfl];dsimp only;rw[ahk i2 (n _) (by decide),À,w9,Î (by rfl),Î (by rfl),Î (by rfl),Er i2 (n _),À,c1,Î (by rfl),À,Er i0 (n _),À,c2,Î (by rfl)];rw[aaz (by decide) (by decide),À,Ù (by rfl),Ù (by simp[ieq,Ñ])];rw[show ∀f:Int×Int×Int→Option Bool,Ĭ [((3:Int),(1099:Int),(1101:Int))] (0:Int) f=f (3,1099,1101) from fun f=>rfl];dsimp only;rw[Ù (by rfl),LX (by decide),À,Ù (by rfl),À];rfl
def abZ {ρ α:Type} (l:List α) (K:Option ρ) {f:Int→(Int→Option ρ)→Option ρ} (h:∀(i:Nat) (a:α),i<l.length→l[i]?=some a→∀kn,f i kn=kn ((i:Int)+1)) (hn:∀kn,f l.length kn=K):Ê f 0=K:=by
 refine eI (iX l (fun _=>false) (fun _=>K) K (fun i a hi ha kn=>by rw[h i a hi ha kn]; rfl) hn) ?_;rw[dC.2 (by simp)]
def bigP (c:Cmp):Bool:=decide (9<c.2.2.1.length)||decide (9<c.2.2.2.1.length)
def IF (m:ń):Bool:=decide (m.1.2.1.length≤6)&&(decide (m.1.2.2.1.length≤20)&&(decide (m.1.2.2.2.1.length≤6)&&(decide (m.1.2.2.2.2.1.length≤8)&&(decide (m.1.2.2.2.2.2.length≤6)&&decide (m.2.length≤6)))))
def Ss (m:ń):Bool:=!((m.1.2.2.2.2.1.take 60).any bigP)&&(!((m.2.take 8).any fun x=>decide (9<x.2.length))&&IF m)
def aba (m:ń):yI m=some (Ss m):=by
 unfold yI EM
 have last:(ifb (ile (Ø m.1.2.1) (6:Int)) (ifb (ile (Ø m.1.2.2.1) (20:Int)) (ifb (ile (Ø m.1.2.2.2.1) (6:Int)) (ifb (ile (Ø m.1.2.2.2.2.1) (8:Int)) (ifb (ile (Ø m.1.2.2.2.2.2) (6:Int)) (some (ile (Ø m.2) (6:Int))) (some false)) (some false)) (some false)) (some false)) (some false))=some (IF m):=by
  have e:∀(n m:Nat),ile (n:Int) (m:Int)=decide (n≤m):=fun n m=>by simp[ile]
  unfold IF;rw[Ñ,Ñ,Ñ,Ñ,Ñ,Ñ,show(6:Int)=((6:Nat):Int) from rfl,show(20:Int)=((20:Nat):Int) from rfl,show(8:Int)=((8:Nat):Int) from rfl,e,e,e,e,e,e];generalize decide (m.1.2.1.length≤6)=x1;generalize decide (m.1.2.2.1.length≤20)=x2;generalize decide (m.1.2.2.2.1.length≤6)=x3;generalize decide (m.1.2.2.2.2.1.length≤8)=x4;generalize decide (m.1.2.2.2.2.2.length≤6)=x5
  cases x1<;>cases x2<;>cases x3<;>cases x4<;>cases x5<;>rfl
 rw[last];refine eI (ũ (m.1.2.2.2.2.1.take 60) bigP (fun _=>some false) (some false) (some (!((m.2.take 8).any fun x=>decide (9<x.2.length))&&IF m)) (fun _=>rfl) (fun i c hi hc kn=>?_) (fun kn=>?_)) ?_
 ·try dsimp only
  unfold oi;rw[List.length_take] at hi
  have hc':m.1.2.2.2.2.1[i]?=some c:=by rw[dN] at hc; split at hc<;>simp_all
  rw[Ò (show i<m.1.2.2.2.2.1.length by omega),Ù (by simp[ilt]; omega),É hc',É hc',Ô (by omega) (by omega),Č,Ñ,Ñ];unfold bigP
  by_cases h1:9<c.2.2.1.length
  ·rw[if_pos (by simp[igt]; omega),if_pos (by simp[h1])]
  ·rw[if_neg (by simp[igt]; omega),Č]
   by_cases h2:9<c.2.2.2.1.length
   ·rw[if_pos (by simp[igt]; omega),if_pos (by simp[h2])]
   ·rw[if_neg (by simp[igt]; omega),if_neg (by simp[h1,h2])]
 ·refine eI ?_ (eI (ũ (m.2.take 8) (fun x=>decide (9<x.2.length)) (fun _=>some false) (some false) (some (IF m)) (f:=fun v kk=>kI m.2 v (fun u=>kk u) (fun z=>some z) (fun _=>some (IF m))) (fun _=>rfl) (fun i x hi hx kn'=>?_) (fun kn'=>?_)) ?_)
  ·try dsimp only
   unfold oi;rw[List.length_take,Č]
   split
   ·rename_i h
    have h':60<m.1.2.2.2.2.1.length:=by rw[Ñ] at h; simp[ilt] at h; omega
    rw[Î (by simp[ilt]; omega)]
   ·rfl
  ·try dsimp only
   unfold kI;rw[List.length_take] at hi
   have hx':m.2[i]?=some x:=by rw[dN] at hx; split at hx<;>simp_all
   rw[Ò (show i<m.2.length by omega),Ù (by simp[ilt]; omega),É hx',Ô (by omega) (by omega),Č,Ñ]
   by_cases h1:9<x.2.length
   ·rw[if_pos (by simp[igt]; omega),if_pos (by simp[h1])]
   ·rw[if_neg (by simp[igt]; omega),if_neg (by simp[h1])]
  ·try dsimp only
   unfold kI;rw[List.length_take,Č]
   split
   ·rename_i h
    have h':8<m.2.length:=by rw[Ñ] at h; simp[ilt] at h; omega
    rw[Î (by simp[ilt]; omega)]
   ·rfl
  ·cases List.any (List.take 8 m.2) (fun x=>decide (9<x.2.length))<;>rfl
 ·unfold Ss
  cases List.any (List.take 60 m.1.2.2.2.2.1) bigP<;>rfl
structure Small7 (m:ń):Prop where
 inn:In m.1
 n6:m.2.length≤6
 l9:∀x∈m.2,x.2.length≤9
 c8:m.1.2.2.2.2.1.length≤8
def abb {m:ń} (h:Ss m=true) (hn:∀g∈m.1.2.1,I64 g.2.2.2.2.1.1):Small7 m:=by
 simp only[Ss,IF,cG,dZ,decide_eq_true_eq] at h;obtain⟨h0,h1,h2,h3,h4,h5,h6,h7⟩:=h;refine⟨⟨⟨by omega,by omega,by omega,by omega,by omega,fun c hc=>?_⟩,hn⟩,h7,fun x hx=>?_,h5⟩
 ·rw[dT (by omega)] at h0;have:=dM.1 h0 c hc;simp[bigP] at this;omega
 ·rw[dT (by omega)] at h1;have:=dM.1 h1 x hx;simp at this;omega
def stp_id {d:Int} {m:Mx} (hn:m.2.Nodup) (x:Int):stp d m m.2 x=x:=by
 unfold stp
 split
 ·by_cases hx:x∈m.2
  ·obtain⟨k,h1,h2⟩:=Rh hx;rw[h1];dsimp only;rw[List.getD_eq_getElem?_getD,h2]; rfl
  ·rw[Ih hx]
 ·rfl
section
variable {m:ń}
def PB (h:MOk m) {a b:List Int} (hab:∀x∈a,x∈b) (hs:Ō (κ m b)=true):Ō (κ m a)=true :=
 ad7 h (fun c _ hc=>by rw[eJ] at hc ⊢; exact hab _ hc) hs
def aer (m:ń):κ m (Ii m)=m:=agU fun c hc=>by rw[eJ]; exact dj.2 ⟨c,hc,rfl⟩
def ag5 {l:List Int} {i k:Nat} (hik:i≤k) {y:Int} (hy:y∈(l.eraseIdx i).eraseIdx k):y∈l.eraseIdx (k+1):=by
 rw[List.mem_eraseIdx_iff_getElem?] at hy ⊢;obtain⟨j,hj,hx⟩:=hy;rw[List.getElem?_eraseIdx] at hx
 by_cases h:j<i
 ·rw[if_pos h] at hx; exact⟨j,by omega,hx⟩
 ·rw[if_neg h] at hx; exact⟨j+1,by omega,hx⟩
def LZ (m:ń) (i:Nat) (l:List Int):Prop:=Ō (κ m l)=false∧∀k,i≤k→k<l.length→Ō (κ m (l.eraseIdx k))=true
def F4 (h:MOk m):∀(i:Nat) (l:List Int),i≤l.length→LZ m i l→LZ m 0 (Lu m i l)
 |0,l,_,hl=>hl
 |i+1,l,hi,⟨h1,h2⟩=>by
  rw[Lu,←List.eraseIdx_eq_take_drop_succ]
  cases hs:Ō (κ m (l.eraseIdx i)) with
  |true =>
   rw[if_pos rfl];refine F4 h i l (by omega) ⟨h1,fun k hk hkl=>?_⟩;rcases cZ i k with hlt|hge
   ·exact h2 k hlt hkl
   ·have:k=i:=by omega
    subst this; exact hs
  |false =>
   rw[if_neg (by simp)];have hl:(l.eraseIdx i).length=l.length-1:=List.length_eraseIdx_of_lt (by omega);refine F4 h i _ (by omega) ⟨hs,fun k hk hkl=>?_⟩;exact PB h (fun y hy=>ag5 hk hy) (h2 (k+1) (by omega) (by omega))
def yW:∀l:List Int,Ý l (2 ^ l.length-1)=l
 |[]=>rfl
 |x::l=>by
  have e:2 ^ (x::l).length-1=2*(2 ^ l.length-1)+1:=by
   have:=Nat.one_le_two_pow (n:=l.length);rw[cS,gR]; omega
  rw[e,Ý,if_pos (by omega),show(2*(2 ^ l.length-1)+1) / 2=2 ^ l.length-1 by omega,yW l]
def jM:∀(l:List Int) (s:Nat),(Ý l s).Sublist l
 |[],_=>List.Sublist.refl _
 |x::l,s=>by
  unfold Ý
  split
  ·exact(jM l _).cons_cons x
  ·exact(jM l _).cons x
def Zl {a l:List Int} (h:a.Sublist l):∃s,s<2 ^ l.length∧Ý l s=a:=by
 induction h with
 |slnil=>exact⟨0,by decide,rfl⟩
 | @cons a l x _ ih =>
  obtain⟨s,h1,h2⟩:=ih;refine⟨2*s,by rw[cS,gR]; omega,?_⟩;rw[Ý,if_neg (by omega),show 2*s / 2=s by omega,h2]
 | @cons_cons a l x _ ih =>
  obtain⟨s,h1,h2⟩:=ih;refine⟨2*s+1,by rw[cS,gR]; omega,?_⟩;rw[Ý,if_pos (by omega),show(2*s+1) / 2=s by omega,h2]
def vA (a b:List Int):Prop:=a.length<b.length∨(a.length=b.length∧HP a b<0)
structure ahm (m:ń) (ids:List Int) (n:Nat) (st:List Int×Nat×List Nat):Prop where
 eq:st.1=Ý ids st.2.1
 no:Ō (κ m st.1)=false
 op:∀x∈st.2.2,Ō (κ m (Ý ids x))=true
 best:∀s,s<n→Ō (κ m (Ý ids s))=false→¬vA (Ý ids s) st.1
def Uw:∀{a b c:List Int},HP a b<0→HP b c<0→HP a c<0
 |[],[],_,h,_=>by simp[HP] at h
 |[],_::_,[],_,h=>by simp[HP] at h
 |[],_::_,_::_,_,_=>by simp[HP]
 |_::_,[],_,h,_=>by simp[HP] at h
 |_::_,_::_,[],_,h=>by simp[HP] at h
 |x::a,y::b,z::c,h1,h2=>by
  rw[HP] at h1 h2 ⊢
  by_cases e1:x<y
  ·by_cases e2:y<z
   ·rw[if_pos (by omega)]; decide
   ·rw[if_neg e2] at h2
    by_cases e3:z<y
    ·rw[if_pos e3] at h2; omega
    ·rw[if_pos (by omega)]; decide
  ·rw[if_neg e1] at h1
   by_cases e3:y<x
   ·rw[if_pos e3] at h1; omega
   ·rw[if_neg e3] at h1
    have:x=y:=by omega
    subst this
    by_cases e2:x<z
    ·rw[if_pos e2]; decide
    ·rw[if_neg e2] at h2 ⊢
     by_cases e4:z<x
     ·rw[if_pos e4] at h2; omega
     ·rw[if_neg e4] at h2 ⊢;exact Uw h1 h2
def U8 {a b c:List Int} (h1:vA a b) (h2:vA b c):vA a c:=by
 rcases h1 with h1|⟨h1,h3⟩<;>rcases h2 with h2|⟨h2,h4⟩
 ·exact .inl (by omega)
 ·exact .inl (by omega)
 ·exact .inl (by omega)
 ·exact .inr ⟨by omega,Uw h3 h4⟩
def Q7:∀a:List Int,HP a a=0
 |[]=>rfl
 |x::a=>by rw[HP,if_neg (by omega),if_neg (by omega),Q7 a]
def abd (h:MOk m) {ids:List Int} (hno:Ō (κ m ids)=false):∀n,ahm m ids n (jB m ids n)
 |0=>⟨(yW ids).symm,hno,fun x hx=>(by cases hx),fun s hs=>by omega⟩
 |n+1=>by
  obtain⟨h1,h2,h3,h4⟩:=abd h hno n
  have e:jB m ids (n+1)=BZ m ids (jB m ids n) n:=by unfold jB; rw[List.range_succ,List.foldl_append]; rfl
  rw[e]
  have best:∀st:List Int×Nat×List Nat,st.1=(jB m ids n).1→(Ō (κ m (Ý ids n))=false→¬vA (Ý ids n) (jB m ids n).1)→∀s,s<n+1→Ō (κ m (Ý ids s))=false→¬vA (Ý ids s) st.1:=fun st e hn s hs hsn=>by
   rw[e];rcases cZ s n with h|h
   ·exact h4 s h hsn
   ·have:s=n:=by omega
    subst this; exact hn hsn
  unfold BZ
  split
  ·rename_i hc;refine⟨h1,h2,h3,best _ rfl fun _ hb=>?_⟩
   rcases hc with hc|⟨hc,hl⟩<;>rcases hb with hb|⟨hb,hl2⟩<;>omega
  ·rename_i hc
   split
   ·rename_i ha;obtain⟨x,hx,hsub⟩:=dg.1 ha;refine⟨h1,h2,h3,best _ rfl fun hf=>?_⟩;have:=PB h (fun y hy=>O4 hsub y hy) (h3 x hx);rw[hf] at this; cases this
   ·split
    ·rename_i hs;have hbest:=best ((jB m ids n).1,(jB m ids n).2.1,(jB m ids n).2.2++[n]) rfl fun hf=>absurd hs (by rw[hf]; simp);refine⟨h1,h2,fun x hx=>?_,hbest⟩
     ·rcases cJ.1 hx with hx|hx
      ·exact h3 x hx
      ·rw[cO.1 hx]; exact hs
    ·rename_i hs;refine⟨rfl,by simpa using hs,h3,fun s hsn hf hb=>?_⟩;dsimp only at hb
     have hbt:vA (Ý ids n) (jB m ids n).1:=by
      rcases Nat.lt_trichotomy (Ý ids n).length (jB m ids n).1.length with hlt|heq|hgt
      ·exact .inl hlt
      ·exact .inr ⟨heq,by
        rcases gA (HP (Ý ids n) (jB m ids n).1) 0 with h|h
        ·exact h
        ·exact absurd (.inr ⟨heq,h⟩) hc⟩
      ·exact absurd (.inl hgt) hc
     rcases cZ s n with h|h
     ·exact h4 s h hf (U8 hb hbt)
     ·have:s=n:=by omega
      subst this;rcases hb with hb|⟨_,hb⟩
      ·omega
      ·rw[Q7] at hb; omega
def VB (h:MOk m) {ids:List Int} (hno:Ō (κ m ids)=false):LZ m 0 (Ý ids (jB m ids (2 ^ ids.length-1)).2.1)∧∀a:List Int,a.Sublist ids→Ō (κ m a)=false→a=Ý ids (jB m ids (2 ^ ids.length-1)).2.1∨¬vA a (Ý ids (jB m ids (2 ^ ids.length-1)).2.1):=by
 obtain⟨h1,h2,h3,h4⟩:=abd h hno (2 ^ ids.length-1);rw[←h1]
 have key:∀a:List Int,a.Sublist ids→Ō (κ m a)=false→¬vA a (jB m ids (2 ^ ids.length-1)).1:=fun a ha hf=>by
  obtain⟨s,hs,rfl⟩:=Zl ha;rcases cZ s (2 ^ ids.length-1) with hlt|hge
  ·exact h4 s hlt hf
  ·have:s=2 ^ ids.length-1:=by omega
   subst this;rw[yW];intro hb;have hle:=(jM ids (jB m ids (2 ^ ids.length-1)).2.1).length_le;rw[←h1] at hle;rcases hb with hb|⟨hb,hl⟩
   ·omega
   ·have:=(jM ids (jB m ids (2 ^ ids.length-1)).2.1).eq_of_length (by rw[←h1]; exact hb.symm);rw[h1,this,Q7] at hl;omega
 refine⟨⟨h2,fun k _ hk=>?_⟩,fun a ha hf=>.inr (key a ha hf)⟩
 cases hs:Ō (κ m ((jB m ids (2 ^ ids.length-1)).1.eraseIdx k)) with
 |true=>rfl
 |false =>
  refine absurd (.inl ?_) (key _ ((List.eraseIdx_sublist _ _).trans (h1▸jM ids _)) hs);rw[List.length_eraseIdx_of_lt hk]; omega
def aaN:∀{ms:List Mx} {w:Way} (x:Mx) (l:List Int) (y d:Int),w.length=ms.length→iM (ms++[x]) (w++[l]) y d=iM ms w (stp d x l y) d
 |[],[],x,l,y,d,_=>rfl
 |m::ms,k::w,x,l,y,d,h=>by
  rw[eO,eO,iM,iM,aaN x l y d (by simpa using h)]
def af5:∀{ms:List Mx} {w:Way} {x:Mx} {l:List Int},Ŋ ms w→l.Perm x.2→Ŋ (ms++[x]) (w++[l])
 |[],[],_,_,_,h=>⟨h,trivial⟩
 |_::_,_::_,_,_,h,hl=>⟨h.1,af5 h.2 hl⟩
def tr_who {m m':ń} {w w':Way} (hb:m'.1=m.1) (hw:∀x d,iM m'.2 w' x d=iM m.2 w x d):trP m' w'=trP m w:=by
 have:∀d l,ks m' w' d l=ks m w d l:=fun d l=>by unfold ks; simp only[hw]
 have e:UT m' w'=UT m w:=funext fun c=>by unfold UT; rw[this,this]
 unfold trP;rw[hb,e];simp only[hw]
def ad8 (h:MOk m) {x:Mx} (hx:x.2.Nodup) (hs:Ō m=true):Ō (Y7 m x)=true:=by
 obtain⟨w,hw,he⟩:=dg.1 hs;have ho:=mM.1 hw;refine dg.2 ⟨w++[x.2],mM.2 (af5 ho (List.Perm.refl _)),?_⟩
 have:trP (Y7 m x) (w++[x.2])=trP m w:=tr_who rfl fun y d=>by
  show iM (m.2++[x]) _ y d=_;rw[aaN x x.2 y d ho.len,stp_id hx]
 unfold lF;rw[this];exact he
end
def Uy {m:ń} (h:MOk m) (hI:In m.1) {ids:List Int} (hl:ids.length≤1000) (h0:LZ m 0 ids):Ĩ m ids=some true:=by
 have hn:=h.n4;have hc:=(Ģ m).2 h
 have hex:∀l:List Int,l.length≤1000000→Ū m l=some (Ō (κ m l),0):=fun l hl=>by rw[ym hI (by omega) hl,tU,if_neg (by simp[hc])]
 unfold Ĩ EN;rw[hex ids (by omega),À,h0.1,Î (by rfl),Î (by rfl)];refine abZ ids _ (fun i x hi hx kn=>?_) (fun kn=>?_)
 ·try dsimp only
  unfold oj;rw[Ò hi,ð (by simp[ile,ì]; omega),ð (Ó (by simp; omega)),Ë hi (by omega),ð (by simp[ile,ì]; omega),ð (Ó (by simp; omega)),Int.toNat_natCast,show Int.toNat ((i:Int)+1)=i+1 by omega,List.nil_append,←List.eraseIdx_eq_take_drop_succ,show((((m.1.1.1,m.1.1.2),m.1.2.1,m.1.2.2.1,m.1.2.2.2.1,m.1.2.2.2.2.1,m.1.2.2.2.2.2),m.2):ń)=m from rfl,hex _ (by have:=(List.eraseIdx_sublist ids i).length_le; omega),À,h0.2 i (by omega) hi,Î (by rfl),Î (by rfl),Ë hi (by omega)]
 ·try dsimp only
  unfold oj;rw[â]
def adJ {m:ń} {x:Mx} (h:MOk (Y7 m x)):x.2.Nodup:=h.nd x (by simp[Y7])
def acG {m:ń} (hn:∀g∈m.1.2.1,I64 g.2.2.2.2.1.1) (ids:List Int) (which:Int) (x:Mx):rZ m ids which x=some true:=by
 unfold rZ rH;rw[aba,À,Zr]
 by_cases hs:Ss m=true
 case neg=>rw[d8.2 hs]; rfl
 have h7:=abb hs hn;have hl6:=h7.n6;rw[hs,Î (by rfl),Ñ]
 by_cases h8:(8:Int)<ids.length
 case pos=>rw[Ù (by simpa[igt] using h8)]; rfl
 rw[Î (by simpa[igt] using h8)]
 by_cases hwh:which<0
 case pos=>rw[Ù (by simpa[ilt] using hwh)]; rfl
 rw[Î (by simpa[ilt] using hwh),Ñ]
 by_cases hx9:(9:Int)<x.2.length
 case pos=>rw[Ù (by simpa[igt] using hx9)]; rfl
 rw[Î (by simpa[igt] using hx9),ym h7.inn (by omega) (by omega),À,tU]
 by_cases hc:ė m=0
 case neg=>rw[if_pos hc,Ù (by simp[ine,hc])]; rfl
 have h:=(Ģ m).1 hc;have hC:=h.good.nC
 have hex:∀l:List Int,l.length≤1000000→Ū m l=some (Ō (κ m l),0):=fun l hl=>by rw[ym h7.inn (by omega) hl,tU,if_neg (by simp[hc])]
 have hm:((((m.1.1.1,m.1.1.2),m.1.2.1,m.1.2.2.1,m.1.2.2.2.1,m.1.2.2.2.2.1,m.1.2.2.2.2.2),m.2):ń)=m:=rfl
 have hidl:(Ii m).length≤40:=by unfold Ii; rw[List.length_map]; exact hC
 rw[if_neg (by simp[hc]),Î (by rfl)];simp only[aeI]
 -- what stands behind
 have hCo:adP m=if Ō m then([],5) else(Lu m (Ii m).length (Ii m),0):=by unfold adP; rw[if_neg (by simp[hc])]
 have hLe:BF m=if Ō m then((K9 m).1,0) else([],5):=by unfold BF; rw[if_neg (by simp[hc])]
 have hcore:Ō m=false→LZ m 0 (Lu m (Ii m).length (Ii m)):=fun hf=>F4 h _ _ (cF _) ⟨by rw[aer]; exact hf,fun k hk hkl=>by omega⟩
 have hcl:∀(i:Nat) (l:List Int),(Lu m i l).length≤l.length:=by
  intro i
  induction i with
  |zero=>intro l; exact cF _
  |succ i ih =>
   intro l;rw[Lu];refine cW (ih _) ?_
   split
   ·exact cF _
   ·simp; omega
 have hsh:(Ã (ĥ m ids) fun r21=>Ã (some true) fun r22=>ifb r22 (ifb (ine r21.2 (0:Int)) (some true) (Ã (Ĩ m r21.1) fun r23=>ifb r23 (some (ile (Ø r21.1) ((ids.length:Nat):Int))) (some false))) (some false))=some true:=by
  rw[LW h7.inn (by omega) (by omega),À,À,jg]
  by_cases he:(Vf m ids).2=0
  ·rw[Î (by simp[ine,he])];unfold Vf at he ⊢;rw[if_neg (by simp[hc])] at he ⊢;rw[if_neg (by omega)] at he ⊢
   split at he
   ·exact absurd he (by decide)
   rename_i e1;rw[if_neg e1]
   split at he
   ·exact absurd he (by decide)
   rename_i e2;rw[if_neg e2]
   split at he
   ·exact absurd he (by decide)
   rename_i e3;rw[if_neg e3]
   have hno:Ō (κ m ids)=false:=by rw[yW] at e3; simpa using e3
   have hle:=mw ids (jB m ids (2 ^ ids.length-1)).2.1;rw[Uy h h7.inn (by omega) (VB h hno).1,À,jg,Ñ];dsimp only;rw[show ile _ _=true from decide_eq_true (by omega)]
  ·rw[Ù (by simp[ine,he])]
 have hend:(Ã (oB m) fun r17=>ifb ((ieq r17.2 (0:Int))==(ieq (BF m).2 (0:Int))) (some false) (ifb (ieq r17.2 (0:Int)) (Ã (Ĩ m r17.1) fun r20=>ifb (!r20) (some false) (Ã (ĥ m ids) fun r21=>Ã (some true) fun r22=>ifb r22 (ifb (ine r21.2 (0:Int)) (some true) (Ã (Ĩ m r21.1) fun r23=>ifb r23 (some (ile (Ø r21.1) ((ids.length:Nat):Int))) (some false))) (some false))) (Ã (ĥ m ids) fun r21=>Ã (some true) fun r22=>ifb r22 (ifb (ine r21.2 (0:Int)) (some true) (Ã (Ĩ m r21.1) fun r23=>ifb r23 (some (ile (Ø r21.1) ((ids.length:Nat):Int))) (some false))) (some false))))=some true:=by
  rw[adO h7.inn (by omega),À,hsh,hCo,hLe]
  cases hso:Ō m with
  |true=>rfl
  |false =>
   rw[if_neg (show ¬(false=true) by simp),if_neg (show ¬(false=true) by simp)];dsimp only;rw[Î (by rfl),Ù (by rfl),Uy h h7.inn (by have:=hcl (Ii m).length (Ii m); omega) (hcore hso),À]; rfl
 have hmid:(Ã (nE m) fun r12=>Ã (D5 m x) fun r13=>ifb (ieq r12.2 (0:Int)) (ifb (ieq r13.2 (0:Int)) (Ã (nE r13.1) fun r16=>ifb (ine r16.2 (0:Int)) (some false) (Ã (oB m) fun r17=>ifb ((ieq r17.2 (0:Int))==(ieq r12.2 (0:Int))) (some false) (ifb (ieq r17.2 (0:Int)) (Ã (Ĩ m r17.1) fun r20=>ifb (!r20) (some false) (Ã (ĥ m ids) fun r21=>Ã (some true) fun r22=>ifb r22 (ifb (ine r21.2 (0:Int)) (some true) (Ã (Ĩ m r21.1) fun r23=>ifb r23 (some (ile (Ø r21.1) ((ids.length:Nat):Int))) (some false))) (some false))) (Ã (ĥ m ids) fun r21=>Ã (some true) fun r22=>ifb r22 (ifb (ine r21.2 (0:Int)) (some true) (Ã (Ĩ m r21.1) fun r23=>ifb r23 (some (ile (Ø r21.1) ((ids.length:Nat):Int))) (some false))) (some false)))))
  (Ã (oB m) fun r17=>ifb ((ieq r17.2 (0:Int))==(ieq r12.2 (0:Int))) (some false) (ifb (ieq r17.2 (0:Int)) (Ã (Ĩ m r17.1) fun r20=>ifb (!r20) (some false) (Ã (ĥ m ids) fun r21=>Ã (some true) fun r22=>ifb r22 (ifb (ine r21.2 (0:Int)) (some true) (Ã (Ĩ m r21.1) fun r23=>ifb r23 (some (ile (Ø r21.1) ((ids.length:Nat):Int))) (some false))) (some false))) (Ã (ĥ m ids) fun r21=>Ã (some true) fun r22=>ifb r22 (ifb (ine r21.2 (0:Int)) (some true) (Ã (Ĩ m r21.1) fun r23=>ifb r23 (some (ile (Ø r21.1) ((ids.length:Nat):Int))) (some false))) (some false)))))
  (Ã (oB m) fun r17=>ifb ((ieq r17.2 (0:Int))==(ieq r12.2 (0:Int))) (some false) (ifb (ieq r17.2 (0:Int)) (Ã (Ĩ m r17.1) fun r20=>ifb (!r20) (some false) (Ã (ĥ m ids) fun r21=>Ã (some true) fun r22=>ifb r22 (ifb (ine r21.2 (0:Int)) (some true) (Ã (Ĩ m r21.1) fun r23=>ifb r23 (some (ile (Ø r21.1) ((ids.length:Nat):Int))) (some false))) (some false))) (Ã (ĥ m ids) fun r21=>Ã (some true) fun r22=>ifb r22 (ifb (ine r21.2 (0:Int)) (some true) (Ã (Ĩ m r21.1) fun r23=>ifb r23 (some (ile (Ø r21.1) ((ids.length:Nat):Int))) (some false))) (some false)))))=some true:=by
  rw[LY h7.inn (by omega),À,afw h7.inn (by omega) (by omega),À,hend,Č]
  split
  ·rename_i h1
   have hso:Ō m=true:=by
    cases hso:Ō m with
    |true=>rfl
    |false=>rw[hLe,hso] at h1; simp[ieq] at h1
   rw[Č]
   split
   ·rename_i h2
    have h2:(Y9 m x).2=0:=by simpa[ieq] using h2
    unfold Y9 at h2 ⊢;rw[if_neg (by simp[hc])] at h2 ⊢
    split at h2
    ·rename_i h3; exact absurd h2 h3
    ·rename_i h3
     have hc2:ė (Y7 m x)=0:=by simpa using h3
     have h':=(Ģ _).1 hc2;have hso2:=ad8 h (adJ h') hso;rw[if_neg h3];dsimp only;rw[LY (m:=Y7 m x) h7.inn (by have:=h'.n4; omega),À,BF,if_neg h3,hso2]; rfl
   ·rfl
  ·rfl
 rw[hm]
 cases hso:Ō (κ m ids) with
 |false=>rw[é,Ñ ids]; exact hmid
 |true =>
  rw[jg,Ñ,Č]
  split
  ·rename_i hpos
   have hpos:(0:Int)<ids.length:=by simpa[igt] using hpos
   obtain⟨i,hi⟩:=gH (Int.tmod_nonneg (ids.length:Int) (show 0≤which by omega))
   have hil:i<ids.length:=by
    have:=Int.tmod_lt_of_pos which hpos;rw[hi] at this; omega
   rw[Î (decide_eq_false (by omega)),hi,ð (by simp[ile,ì]; omega),ð (Ó (by simp; omega)),Ô (by omega) (by omega),ð (by simp[ile,ì]; omega),ð (Ó (by simp; omega)),cT,show Int.toNat ((i:Int)+1)=i+1 by omega,dI,←List.eraseIdx_eq_take_drop_succ,hex _ (by have:=(List.eraseIdx_sublist ids i).length_le; omega),À,PB h (fun y hy=>List.mem_of_mem_eraseIdx hy) hso,Î (by rfl),Î (by rfl)];exact hmid
  ·exact hmid
end Go.Proofs.ZzM
end
