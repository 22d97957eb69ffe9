/- lemmas -/
import Derived.Test.YtdmegkgjpgcfgaaGreatPlA
import Derived.Test.YtdmegkgjpgcfgaaGreatMdTA
set_option linter.all false
set_option linter.unusedSectionVars false
set_option linter.unusedVariables false
set_option linter.unusedSimpArgs false
noncomputable section
namespace Go.Proofs.ZzM
open Go Go.Am
section
variable {ρ:Type}
def FZ {α σ:Type} (l:List α) (g:Nat→σ) (r:Option ρ) {f:σ×Int→(σ×Int→Option ρ)→Option ρ} {s0:σ} (P:Nat→Prop) (h0:g 0=s0) (hP:P 0)
 (h:∀(i:Nat) (a:α),i<l.length→l[i]?=some a→P i→∀kn,f (g i,i) kn=r∨(P (i+1)∧f (g i,i) kn=kn (g (i+1),(i:Int)+1)))
 (hn:P l.length→∀kn,f (g l.length,l.length) kn=r):Ê f (s0,0)=r:=by
 subst h0;refine tv (F:=fun _=>r) (fun x=>∃i:Nat,i≤l.length∧x=(g i,(i:Int))∧P i) (fun x=>l.length-x.2.toNat) (fun x hx kn hk=>?_) ⟨0,dJ _,rfl,hP⟩;obtain⟨i,hi,rfl,hp⟩:=hx;rcases cX i l.length with hlt|hge
 ·rcases h i _ hlt (cA hlt) hp kn with h1|⟨h1,h2⟩
  ·exact h1
  ·rw[h2,hk _ ⟨i+1,hlt,by simp,h1⟩ (by simp; omega)]
 ·have:i=l.length:=by omega
  subst this;exact hn hp kn
def YH {l:List Int} {f:Int→(Int→Option ρ)→Option ρ} {K k1:Option ρ} (h:∀(i:Nat) (a b:Int),l[i]?=some a→l[i+1]?=some b→∀kn,f ((i:Int)+1) kn=if b≤a then K else kn ((i:Int)+1+1))
 (hn:∀n:Nat,l.length≤n→∀kn,f n kn=k1):Ê f 1=if l.Pairwise (·<·) then k1 else K:=by
 have hb:=IJ (fun x:Int=>x) l;refine Ę (fun x=>∃i:Nat,x=(i:Int)+1∧∀j a,j≤i→l[j]?=some a→tO (fun x=>x) l j a=false) (fun x=>l.length-x.toNat) ?_ ⟨0,rfl,fun j a hj _=>?_⟩
 ·rintro x ⟨i,rfl,hi⟩;rcases cX (i+1) l.length with hlt|hge
  ·have ha:l[i]?=some l[i]:=cA (by omega);have hc:l[i+1]?=some l[i+1]:=cA hlt
   by_cases hle:l[i+1]≤l[i]
   ·refine .inl fun kn=>?_;rw[h i _ _ ha hc,if_pos hle,if_neg];intro hp;have:=hb.2 hp (i+1) _ hc;simp[tO,ha,hle] at this
   ·refine .inr ⟨(i:Int)+1+1,⟨i+1,by simp,fun j a hj hja=>?_⟩,by omega,fun kn=>by rw[h i _ _ ha hc,if_neg hle]⟩;rcases cX i j with h1|h1
    ·have:j=i+1:=by omega
     subst this;rw[hc] at hja; cases hja;simp[tO,ha]; omega
    ·exact hi j a h1 hja
  ·refine .inl fun kn=>?_;have:=hn (i+1) hge kn;simp only[Int.natCast_add,Int.cast_ofNat_Int] at this;rw[this,if_pos];refine hb.1 fun j a hj=>hi j a ?_ hj;have:=(cE.1 hj).1;omega
 ·have:j=0:=by omega
  subst this; simp[tO]
end
def mixE (b:Ğ) (l:List Mx) (i:Nat) (x:Mx):Int :=
 if !(inP x.1 0 19999&&inP x.2.length 2 5) then 1 else
 if ¬x.2.Pairwise (·<·) then 1 else
 if x.2.any (fun g=>(þ b g).isNone) then 5 else
 if x.2.any (fun g=>GA b g x.1 != 0) then 4 else
 if tO (fun y=>y.1) l i x then 6 else
 if x.2.any (fun g=>(lh b g x.1).isSome||(lh b g (x.1+1)).isSome) then 9 else 0
def Xp:Nat→Nat
 |0=>1
 |n+1=>Xp n*(n+1)
def yX:List Mx→Nat
 |[]=>1
 |x::r=>Xp x.2.length*yX r
def Og:∀{l:List Mx} {i:Nat} {x:Mx},l[i]?=some x→yX (l.take (i+1))=yX (l.take i)*Xp x.2.length
 |[],_,_,h=>by simp at h
 |y::l,0,x,h=>by simp at h; subst h; simp[yX]
 |y::l,i+1,x,h=>by
  simp only[fq] at h;simp only[gn,yX,Og h,Nat.mul_assoc]
def acS:∀{n:Nat},n≤5→Xp n≤120
 |0,_|1,_|2,_|3,_|4,_|5,_=>by decide
 |n+6,h=>by omega
def Yo:∀{l:List Mx} {n:Nat},l.length≤n→(∀x∈l,x.2.length≤5)→yX l≤120 ^ n
 |[],n,_,_=>Nat.one_le_pow _ _ (by decide)
 |x::l,0,h,_=>by simp at h
 |x::l,n+1,h,hl=>by
  have h1:=Yo (l:=l) (n:=n) (by simpa using h) fun y hy=>hl y (cZ _ hy);have h2:=acS (hl x (by simp));rw[yX,Nat.pow_succ,Nat.mul_comm];exact fO h1 h2
def OB (b:Ğ) (l:List Mx):Option Int:=ķ (fun i x=>aau (mixE b l i x)) 0 l
def Ļ (m:ő):Int :=
 if ű m.1≠0 then ű m.1 else if 4<m.2.length then 2 else match OB m.1 m.2 with
 |some e=>e
 |none=>if 150<yX m.2 then 2 else 0
def Jp (l:List õ):List (Int×Int):=l.foldl (fun m g=>Mn (k:=tI) (v:=tI) g.1 g.2.1 m) []
def E5 (x y n:Int):∀m:List (Int×Int),oW (k:=tI) (v:=tI) x (Mn (k:=tI) (v:=tI) y n m)=if x=y then some n else oW (k:=tI) (v:=tI) x m
 |[]=>by
  unfold Mn oW i5 oW
  by_cases h:x=y<;>simp[h]
 |e::m=>by
  unfold Mn
  by_cases h:y=e.1
  ·have:i5 tI y e.1=true:=by simp[i5,h]
   rw[this];simp only;unfold oW
   by_cases hx:x=y
   ·subst hx; simp[i5]
   ·have:i5 tI x y=false:=by simp[i5,hx]
    have h2:i5 tI x e.1=false:=by simp[i5,←h,hx]
    rw[this,if_neg hx];simp only[h2]
  ·have:i5 tI y e.1=false:=by simp[i5,h]
   rw[this];simp only;unfold oW
   by_cases hx:x=e.1
   ·subst hx;rw[if_neg (fun e=>h e.symm)];simp[i5]
   ·have h2:i5 tI x e.1=false:=by simp[i5,hx]
    rw[h2];exact E5 x y n m
def Z7 (x:Int) (l:List õ):oW (k:=tI) (v:=tI) x (Jp l)=(l.reverse.find? fun g=>g.1==x).map fun g=>g.2.1:=by
 have key:∀r:List õ,oW (k:=tI) (v:=tI) x (Jp r.reverse)=(r.find? fun g=>g.1==x).map fun g=>g.2.1:=by
  intro r
  induction r with
  |nil=>rfl
  |cons g r ih =>
   rw[List.reverse_cons,Jp,List.foldl_append];simp only[fG,List.foldl_nil];rw[E5,fi]
   by_cases h:x=g.1
   ·subst h; simp
   ·have:(g.1==x)=false:=by simp; exact fun e=>h e.symm
    rw[if_neg h,this];exact ih
 have:=key l.reverse
 rwa [List.reverse_reverse] at this
def ab5 {b:Ğ} (h:b.2.1.Pairwise fun a b=>a.1<b.1) (x:Int):oW (k:=tI) (v:=tI) x (Jp b.2.1)=(þ b x).map fun g=>g.2.1:=by
 rw[Z7,Ha h]; rfl
def UN {ρ:Type} {b:Ğ} (h:b.2.1.Pairwise fun a b=>a.1<b.1) (x:Int) (f:Int→Option ρ) (g:Option ρ):Iw (k:=tI) (v:=tI) x (Jp b.2.1) f g=match þ b x with|some y=>f y.2.1|none=>g:=by
 unfold Iw;rw[ab5 h]
 cases þ b x<;>rfl
section
variable {ρ:Type} {b:Ğ}
def mix_L0 {l:List Int} (hl:l.length≤1000) (k0:Int→Option ρ) (k1:Unit→Option ρ):Ê (fun(v:Int) kk=>mG l v (fun u=>kk u) k0 k1) 1=if l.Pairwise (·<·) then k1 () else k0 1:=by
 refine YH (fun i a c ha hc kn=>?_) (fun n hn kn=>?_)
 ·have hi:=(List.getElem?_eq_some_iff.1 hc).1;unfold mG
  have e:((i:Int)+1)=((i+1:Nat):Int):=by omega
  rw[e,Ñ hi,È hc,Ó (by omega) (by omega),←e,Int.add_sub_cancel,È ha,Č,Ó (by omega) (by omega)];simp
 ·unfold mG;rw[Ì (by simp[ilt,Ò]; omega)]
def mix_L1 (hn:b.2.1.length≤1000) (k0:List (Int×Int)→Option ρ):Ê (fun(v:Int×List (Int×Int)) kk=>mF b.2.1 (Ø b.2.1) v.1 v.2 (fun u v=>kk (u,v)) k0) ((0:Int),[])=k0 (Jp b.2.1):=by
 refine ģ b.2.1 (fun i=>Jp (b.2.1.take i)) _ rfl (fun i g hi hg kn=>?_) (fun kn=>?_)
 ·try dsimp only
  unfold mF;rw[Ñ hi,È hg,Ë hi (by omega)];congr 2;rw[take_succ hg,Jp,Jp,List.foldl_append];rfl
 ·try dsimp only
  unfold mF;rw[ß,List.take_length]
def mix_L2 (hi:b.2.1.Pairwise fun a b=>a.1<b.1) {l:List Int} (hl:l.length≤1000) (X Y Z:Option ρ):Ê (fun(v:Int) kk=>mE l (Ø l) (Jp b.2.1) v (fun u=>kk u) (fun z=>ifb (ige z (0:Int)) X Y) (fun _=>Z)) 0=if l.any (fun g=>(þ b g).isNone) then X else Z:=by
 refine Š l _ (fun z=>ifb (ige z (0:Int)) X Y) X Z (fun j=>Ù (by simp[ige]) _ _) (fun i a hia ha kn=>?_) (fun kn=>?_)
 ·unfold mE;rw[Ñ hia,È ha,UN hi,Ë hia (by omega)]
  cases þ b a<;>rfl
 ·unfold mE;rw[ß]
def mix_L3 (hi:b.2.1.Pairwise fun a b=>a.1<b.1) {l:List Int} (hl:l.length≤1000) (hk:∀x∈l,∃g,þ b x=some g) (d:Int) (X Y Z:Option ρ):Ê (fun(v:Int) kk=>jY l (Ø l) d (Jp b.2.1) v (fun u=>kk u) (fun z=>ifb (ige z (0:Int)) X Y) (fun _=>Z)) 0=if l.any (fun g=>GA b g d != 0) then X else Z:=by
 refine Š l _ (fun z=>ifb (ige z (0:Int)) X Y) X Z (fun j=>Ù (by simp[ige]) _ _) (fun i a hia ha kn=>?_) (fun kn=>?_)
 ·unfold jY;rw[Ñ hia,È ha,UN hi,Ë hia (by omega)];obtain⟨g,hg⟩:=hk a (List.mem_of_getElem? ha);unfold GA;rw[hg];dsimp only;rw[Č]
  by_cases h:d<g.2.1<;>simp[ilt,h]
 ·unfold jY;rw[ß]
def mix_L4 (h:Ν b) {l:List Int} (hl:l.length≤1000) (hk:∀x∈l,∃g,þ b x=some g) {d:Int} (hd:0≤d∧d<20000) (X Y Z:Option ρ):Ê (fun(v:Int) kk=>ľ l (Ø l) b.1.1 b.1.2 b.2.1 b.2.2.1 b.2.2.2.1 b.2.2.2.2.1 b.2.2.2.2.2 d v (fun u=>kk u) (fun z=>ifb (ige z (0:Int)) X Y) (fun _=>Z)) 0=if l.any (fun g=>(lh b g d).isSome||(lh b g (d+1)).isSome) then X else Z:=by
 refine Š l _ (fun z=>ifb (ige z (0:Int)) X Y) X Z (fun j=>Ù (by simp[ige]) _ _) (fun i a hia ha kn=>?_) (fun kn=>?_)
 ·unfold ľ;obtain⟨g,hg⟩:=hk a (List.mem_of_getElem? ha)
  have hw:∀e,0≤e→e≤20000→yJ ((b.1.1,b.1.2),b.2.1,b.2.2.1,b.2.2.2.1,b.2.2.2.2.1,b.2.2.2.2.2) a e=some ((lh b a e).isSome,0):=fun e h0 h1=>by
   rw[show(((b.1.1,b.1.2),b.2.1,b.2.2.1,b.2.2.2.1,b.2.2.2.2.1,b.2.2.2.2.2):Ğ)=b from rfl,ahy ⟨h.size,fun g hg=>by have:=(h.gaugeR hg).2.1; unfold I64; omega⟩]
   have:Mb b a [e]=0:=by
    unfold Mb;rw[if_neg (by simp[(ψ b).2 h]),if_neg (by simp[LQ,inP,h0,h1]),yk h.ids,hg]; rfl
   unfold ahz;rw[if_neg (by simp[this])]
  rw[Ñ hia,È ha,hw d hd.1 (by omega),À,Ó (by omega) (by omega),hw (d+1) (by omega) (by omega),À,Ë hia (by omega)];dsimp only
  cases(lh b a d).isSome<;>cases(lh b a (d+1)).isSome<;>rfl
 ·unfold ľ;rw[ß]
end
def aeV {b:Ğ} (h:Ν b) {l:List Mx} {i:Nat} {x:Mx} (hx:l[i]?=some x) (hn:i≤1000):Ec b l i=some (mixE b l i x):=by
 unfold Ec JO mixE;rw[È hx]
 by_cases h1:inP x.1 0 19999=true∧inP (x.2.length:Int) 2 5=true
 ·obtain⟨h1,h2⟩:=h1;rw[if_neg (by simp[h1,h2])];simp only[inP,cD,decide_eq_true_eq] at h1 h2
  have hl:x.2.length≤1000:=by omega
  rw[Ì (by simp[ilt]; omega),Ì (by simp[ige]; omega),Ì (by simp[ilt,Ò]; omega),Ì (by simp[igt,Ò]; omega),mix_L0 hl]
  by_cases h3:x.2.Pairwise (·<·)
  ·rw[if_pos h3,if_neg (by simpa using h3)]
   try dsimp only
   rw[mix_L1 (by have:=h.nG; omega),mix_L2 h.ids hl]
   by_cases h4:(x.2.any fun g=>(þ b g).isNone)=true
   ·rw[if_pos h4,if_pos h4]
   ·have hk:∀y∈x.2,∃g,þ b y=some g:=fun y hy=>by
     simp only[dj,not_exists,not_and,Option.isNone_iff_eq_none] at h4;exact Option.ne_none_iff_exists'.1 (h4 y hy)
    rw[if_neg h4,if_neg h4,mix_L3 h.ids hl hk]
    by_cases h5:(x.2.any fun g=>GA b g x.1 != 0)=true
    ·rw[if_pos h5,if_pos h5]
    ·rw[if_neg h5,if_neg h5,mix_L4 h hl hk (by omega)]
     cases i with
     |zero =>
      rw[Ì (by simp[igt]),if_neg (show ¬tO (fun y:Mx=>y.1) l 0 x=true by simp[tO])]
      split<;>rfl
     |succ i =>
      obtain⟨hi,_⟩:=cE.1 hx;have hy:l[i]?=some l[i]:=cA (by omega)
      have e:((i+1:Nat):Int)-1=i:=by omega
      rw[Ù (by simp[igt]),Ó (by omega) (by omega),e,È hy,Č];unfold tO;simp only[Nat.add_sub_cancel,hy,Option.any_some,Nat.succ_pos,decide_true,Bool.true_and,ile,decide_eq_true_eq]
      split
      ·rfl
      ·split<;>rfl
  ·rw[if_neg h3,if_pos h3]
 ·rw[if_pos (by simp only[dO]; cases h2:inP x.1 0 19999<;>cases h3:inP (x.2.length:Int) 2 5<;>simp_all)]
  simp only[inP,cD,decide_eq_true_eq,not_and,Int.not_le] at h1;simp only[Č,ilt,ige,igt,Ò,decide_eq_true_eq]
  split
  ·rfl
  split
  ·rfl
  split
  ·rfl
  rw[if_pos (by have:=h1 (by omega); omega)]
def YF {b:Ğ} {l:List Mx} {i:Nat} {x:Mx} (h:mixE b l i x=0):x.2.length≤5:=by
 unfold mixE at h
 split at h
 ·cases h
 ·rename_i h1;simp[inP] at h1;omega
def ae8 {n v:Nat} (hn:n≤5) (hv:v≤1000000000) {ρ:Type} (k0:Int→Option ρ):Ê (fun(u:Int×Int) kk=>mH (Z4 n) u.1 u.2 (fun a b=>kk (a,b)) k0) ((v:Int),(0:Int))=k0 ((v*Xp n:Nat):Int):=by
 refine FZ (List.range n) (fun i=>((v*Xp i:Nat):Int)) _ (fun _=>True) (by simp[Xp]) trivial (fun i a hi ha _ kn=>.inr ⟨trivial,?_⟩) (fun _ kn=>?_)
 ·rw[fJ] at hi
  try dsimp only
  unfold mH;have hf:=acS (n:=i) (by omega);have hb:v*Xp i≤1000000000*120:=Nat.mul_le_mul hv hf;have h2:v*Xp i*(i+1)≤1000000000*120*6:=Nat.mul_le_mul hb (by omega)
  have e:((v*Xp i:Nat):Int)*((i:Int)+1)=((v*Xp i*(i+1):Nat):Int):=by simp
  rw[af4 hi,Ó (by omega) (by omega),e,Ó (by omega) (by omega),Ó (by omega) (by omega),Xp,Nat.mul_assoc]
 ·rw[fJ]
  try dsimp only
  unfold mH;rw[ß]
def ab4 {b:Ğ} {l:List Mx} {i:Nat} {x:Mx} (hx:l[i]?=some x) (hp:∀j y,j<i→l[j]?=some y→mixE b l j y=0) (he:mixE b l i x≠0):OB b l=some (mixE b l i x):=by
 have key:∀(m:List Mx) (k:Nat),l.drop k=m→k≤i→ķ (fun i x=>aau (mixE b l i x)) k m=some (mixE b l i x):=by
  intro m
  induction m with
  |nil =>
   intro k hk hki;have:=List.drop_eq_nil_iff.1 hk;have:=(cE.1 hx).1;omega
  |cons y m ih =>
   intro k hk hki
   have hy:l[k]?=some y:=by
    have:(l.drop k)[0]?=some y:=by rw[hk]; rfl
    simpa using this
   rw[ķ];rcases cX k i with hlt|hge
   ·rw[hp k y hlt hy];simp only[aau,if_true];refine ih (k+1) ?_ hlt;rw[←List.tail_drop,hk]; rfl
   ·have:k=i:=by omega
    subst this;rw[hx] at hy; cases hy;simp[aau,he]
 exact key l 0 rfl (dJ _)
def Jj {b:Ğ} {l:List Mx} (hp:∀j y,l[j]?=some y→mixE b l j y=0):OB b l=none:=by
 rw[OB,iO];intro j y hy;rw[dm,hp j y hy]; rfl
def mw {m:ő} (hs:In m.1) (hn:m.2.length≤1000):π m=some (Ļ m):=by
 unfold π J7 Ļ;rw[yU hs.size hs.num,À]
 by_cases hc:ű m.1=0
 ·have hg:=(ψ _).1 hc;rw[Ì (by simp[ine,hc]),if_neg (by simp[hc])]
  by_cases h4:4<m.2.length
  ·rw[Ù (by simp[igt,Ò]; omega),if_pos h4]
  ·rw[Ì (by simp[igt,Ò]; omega),if_neg h4];refine FZ m.2 (fun i=>((yX (m.2.take i):Nat):Int)) _ (fun i=>∀j y,j<i→m.2[j]?=some y→mixE m.1 m.2 j y=0) (by simp[yX]) (fun j y h _=>by omega) (fun i x hi hx hp kn=>?_) (fun hp kn=>?_)
   ·try dsimp only
    unfold qL;rw[Ñ hi,È hx,show(((m.1.1.1,m.1.1.2),m.1.2.1,m.1.2.2.1,m.1.2.2.2.1,m.1.2.2.2.2.1,m.1.2.2.2.2.2):Ğ)=m.1 from rfl,aeV hg hx (by omega),À]
    by_cases he:mixE m.1 m.2 i x=0
    ·rw[Ì (by simp[ine,he])]
     have h5:∀y∈m.2.take i,y.2.length≤5:=fun y hy=>by
      obtain⟨j,hj,rfl⟩:=cO.1 hy;rw[cW] at hj;rw[eP];exact YF (hp j _ (by omega) (cA (by omega)))
     have hb:=Yo (l:=m.2.take i) (n:=4) (by rw[cW]; omega) h5
     have hb2:(120:Nat) ^ 4=207360000:=by decide
     refine .inr ⟨fun j y hj hy=>?_,?_⟩
     ·rcases cX j i with h|h
      ·exact hp j y h hy
      ·have:j=i:=by omega
       subst this;rw[hx] at hy; cases hy;exact he
     ·rw[ae8 (YF he) (by omega),Ë hi (by omega),Og hx]
    ·refine .inl ?_;rw[Ù (by simp[ine,he]),ab4 hx hp he]
   ·try dsimp only
    unfold qL;rw[ß,Jj fun j y hy=>hp j y (List.getElem?_eq_some_iff.1 hy).1 hy,List.take_length];dsimp only;rw[Č];simp only[igt,decide_eq_true_eq]
    by_cases h:150<yX m.2
    ·rw[if_pos (by omega),if_pos h]
    ·rw[if_neg (by omega),if_neg h]
 ·rw[Ù (by simp[ine,hc]),if_pos hc]
def I2 {α:Type} [DecidableEq α] {l m:List α} (hl:l.length=m.length) (h:ķ (fun i a=>if m[i]?=some a then none else some false) 0 l=none):l=m:=by
 have:=iO.1 h;refine List.ext_getElem hl fun i h1 h2=>?_;have h3:=this i l[i] (cA h1);rw[dm] at h3
 split at h3
 ·rename_i h4;rw[cA h2] at h4;exact(Option.some.inj h4).symm
 ·cases h3
def I1 {α:Type} [DecidableEq α] {l m:List α} {b:Bool} (h:ķ (fun i a=>if m[i]?=some a then none else some false) 0 l=some b):b=false∧l≠m:=by
 constructor
 ·have:∀(k:Nat) (x:List α) (b:Bool),ķ (fun i a=>if m[i]?=some a then none else some false) k x=some b→b=false:=by
   intro k x
   induction x generalizing k with
   |nil=>intro b h; cases h
   |cons a t ih =>
    intro b h;unfold ķ at h
    split at h
    ·rename_i c hc
     split at hc
     ·cases hc
     ·cases hc; cases h; rfl
    ·exact ih _ _ h
  exact this _ _ _ h
 ·intro e;subst e;rw[iO.2 fun j a ha=>by rw[dm,if_pos ha]] at h;cases h
def BX {l m:List Int} (hn:l.length≤1000000):Ţ l m=some (decide (l=m)):=by
 unfold Ţ uw;rw[Ò,Ò]
 by_cases hl:l.length=m.length
 ·rw[Ì (by simp[ine,hl])];refine eh (jZ l (fun i a=>if m[i]?=some a then none else some false) some (some true) (fun i a hi ha kn=>?_) (fun kn=>?_)) ?_
  ·try dsimp only
   unfold jJ;have hm:m[i]?=some m[i]:=List.getElem?_eq_getElem (by omega);rw[Ñ hi,È ha,È hm,Ë hi (by omega),hm,Č]
   by_cases h:a=m[i]
   ·simp[ine,h]
   ·have h':¬m[i]=a:=fun e=>h e.symm;simp[ine,h,h']
  ·try dsimp only
   unfold jJ;rw[ß]
  ·cases h:ķ (fun i a=>if m[i]?=some a then none else some false) 0 l with
   |none=>simp[I2 hl h]
   |some b =>
    obtain⟨h1,h2⟩:=I1 h;simp[h1,h2]
 ·rw[Ù (by simp[ine]; omega)];have:l≠m:=fun e=>hl (by rw[e]);simp[this]
structure MixOk (b:Ğ) (x:Mx):Prop where
 day:0≤x.1∧x.1<20000
 len:2≤x.2.length∧x.2.length≤5
 asc:x.2.Pairwise (·<·)
 known:∀l∈x.2,∃g,þ b l=some g∧g.2.1≤x.1
 home:∀l∈x.2,lh b l x.1=none∧lh b l (x.1+1)=none
def Tz {b:Ğ} {l:List Mx} {i:Nat} {x:Mx} (h:mixE b l i x=0):MixOk b x∧tO (fun y=>y.1) l i x=false:=by
 unfold mixE at h
 split at h
 ·cases h
 rename_i h1
 split at h
 ·cases h
 rename_i h2
 split at h
 ·cases h
 rename_i h3
 split at h
 ·cases h
 rename_i h4
 split at h
 ·cases h
 rename_i h5
 split at h
 ·cases h
 rename_i h6;simp only[inP,Bool.not_eq_true',Bool.and_eq_false_iff,not_or,Bool.not_eq_false,decide_eq_false_iff_not,Int.not_le,Bool.and_eq_true,decide_eq_true_eq] at h1;simp only[List.any_eq_true,not_exists,not_and,Option.isNone_iff_eq_none] at h3;simp only[List.any_eq_true,not_exists,not_and,bne_iff_ne,ne_eq,Decidable.not_not] at h4;simp only[List.any_eq_true,not_exists,not_and,Bool.or_eq_true,not_or,Option.isSome_iff_ne_none,ne_eq,Decidable.not_not] at h6;refine⟨⟨by omega,by omega,Decidable.not_not.1 h2,fun y hy=>?_,h6⟩,by simpa using h5⟩;obtain⟨g,hg⟩:=Option.ne_none_iff_exists'.1 (h3 y hy);refine⟨g,hg,?_⟩;have:=h4 y hy;unfold GA at this;rw[hg] at this;dsimp only at this
 split at this
 ·cases this
 ·omega
structure MOk (m:ő):Prop where
 good:Ν m.1
 n4:m.2.length≤4
 mixE:∀i x,m.2[i]?=some x→mixE m.1 m.2 i x=0
 prod:yX m.2≤150
def ň (m:ő):Ļ m=0↔MOk m:=by
 unfold Ļ;constructor
 ·intro h
  split at h
  ·rename_i h1; exact absurd h h1
  rename_i h1
  split at h
  ·cases h
  rename_i h2
  cases hm:OB m.1 m.2 with
  |some e =>
   rw[hm] at h;dsimp only at h;rw[OB] at hm
   have key:∀(l:List Mx) (k:Nat) (e:Int),ķ (fun i x=>aau (mixE m.1 m.2 i x)) k l=some e→e≠0:=by
    intro l
    induction l with
    |nil=>intro k e h; cases h
    |cons y l ih =>
     intro k e h;rw[ķ] at h
     by_cases hz:mixE m.1 m.2 k y=0
     ·rw[hz] at h;exact ih (k+1) e h
     ·simp only[aau,if_neg hz,Option.some.injEq] at h;rw[←h]; exact hz
   exact absurd h (key _ _ _ hm)
  |none =>
   rw[hm] at h;dsimp only at h
   split at h
   ·cases h
   rename_i h3;refine⟨(ψ _).1 (Decidable.not_not.1 h1),by omega,fun i x hx=>?_,by omega⟩;have:=(iO.1 hm) i x hx;rw[Nat.zero_add] at this;unfold aau at this
   split at this
   ·assumption
   ·cases this
 ·intro h;rw[if_neg (by simp[(ψ _).2 h.good]),if_neg (by have:=h.n4; omega),Jj h.mixE];dsimp only;rw[if_neg (by have:=h.prod; omega)]
section
variable {m:ő}
def MOk.mix (h:MOk m) {x:Mx} (hx:x∈m.2):MixOk m.1 x:=by
 obtain⟨i,hi,rfl⟩:=cO.1 hx;exact(Tz (h.mixE i _ (cA hi))).1
def MOk.days (h:MOk m):m.2.Pairwise fun a b=>a.1<b.1:=(IJ (fun y:Mx=>y.1) m.2).1 fun i x hx=>(Tz (h.mixE i x hx)).2
def MOk.len5 (h:MOk m):∀x∈m.2,x.2.length≤5:=fun x hx=>(h.mix hx).len.2
def MOk.in_ (h:MOk m):In m.1:=⟨h.good.size,fun g hg=>by have:=(h.good.gaugeR hg).2.1; unfold I64; omega⟩
end
def PH {l:List Int} {i:Nat} (hi:i<l.length):(l[i]::(l.take i++l.drop (i+1))).Perm l:=by
 have h:l=l.take i++l[i]::l.drop (i+1):=by rw[←dv hi,dM]
 exact List.Perm.trans (List.perm_middle.symm) (by rw[←h])
def Im:∀{n:Nat} {l x:List Int},l.length=n→(x∈EZ n l↔x.Perm l)
 |0,l,x,h=>by
  have:l=[]:=cR.1 h;subst this;simp[EZ]
 |n+1,l,x,h=>by
  rw[EZ,if_neg (by omega)];simp only[dl,fu,dc];constructor
  ·rintro⟨i,hi,y,hy,rfl⟩;have hy:=(Im (n:=n) (by simp; omega)).1 hy;rw[dV,cA hi];exact(hy.cons _).trans (PH hi)
  ·intro hp
   cases x with
   |nil=>have:=hp.length_eq; simp at this; omega
   |cons a x =>
    have ha:a∈l:=hp.subset (by simp);obtain⟨i,hi,rfl⟩:=cO.1 ha;refine⟨i,hi,x,(Im (n:=n) (by simp; omega)).2 ?_,by rw[dV,cA hi]; rfl⟩;exact List.Perm.cons_inv (hp.trans (PH hi).symm)
def RD {α β:Type} (f:α→List β) (n:Nat):∀l:List α,(∀a∈l,(f a).length=n)→(l.flatMap f).length=l.length*n
 |[],_=>by simp
 |a::l,h=>by
  rw[dw,cF,h a (by simp),RD f n l fun b hb=>h b (cZ _ hb),cP,Nat.succ_mul]; omega
def YC:∀{n:Nat} {l:List Int},l.length=n→(EZ n l).length=Xp n
 |0,_,_=>rfl
 |n+1,l,h=>by
  rw[EZ,if_neg (by omega),RD _ (Xp n) _ fun i hi=>by rw[dz]; exact YC (by simp at hi ⊢; omega),fJ,Xp,h,Nat.mul_comm]
def Ep:∀{ms:List Mx} {w:Way},w∈iA ms↔Ĩ ms w
 |[],[]=>by simp[iA,Ĩ]
 |[],_::_=>by simp[iA,Ĩ]
 |m::ms,[]=>by simp[iA,Ĩ]
 |m::ms,l::ls=>by
  simp only[iA,dl,dc,Ĩ];constructor
  ·rintro⟨x,hx,y,hy,e⟩;cases e;exact⟨(Im rfl).1 hx,Ep.1 hy⟩
  ·intro⟨h1,h2⟩;exact⟨l,(Im rfl).2 h1,ls,Ep.2 h2,rfl⟩
def LS:∀ms:List Mx,(iA ms).length=yX ms
 |[]=>rfl
 |m::ms=>by rw[iA,RD _ (yX ms) _ fun x _=>by rw[dz,LS],YC rfl,yX]
def ĝ (ms:List Mx):List Way:=į (oD ms) (iA ms)
def aam {α:Type} {k k':α→Int} {x:α} {l:List α} (hx:k x=k' x) (h:∀y∈l,k y=k' y):aan k x l=aan k' x l:=by
 induction l with
 |nil=>rfl
 |cons y l ih =>
  unfold aan;rw[hx,h y (by simp),ih fun z hz=>h z (List.mem_cons_of_mem _ hz)]
def Lg {α:Type} {k k':α→Int}:∀{l:List α},(∀y∈l,k y=k' y)→į k l=į k' l
 |[],_=>rfl
 |x::l,h=>by
  have hl:=Lg fun y hy=>h y (cZ x hy);show aan k x (į k l)=aan k' x (į k' l);rw[hl];exact aam (h x (by simp)) fun y hy=>h y (cZ _ ((Ķ (key:=k') l).mem.1 hy))
def mz {ms:List Mx} {w:Way}:w∈ĝ ms↔Ĩ ms w:=by
 rw[ĝ,(Ķ (iA ms)).mem,Ep]
def Sq (ms:List Mx):(ĝ ms).length=yX ms:=by rw[ĝ,(Ķ (iA ms)).length,LS]
section
variable {m:ő} {ρ:Type}
def MOk.wgt (h:MOk m) {w:Way} (hw:Ĩ m.2 w):ĥ m w=some (oD m.2 w) :=
 aa8 hw (by have:=h.n4; omega) fun x hx=>by have:=h.len5 x hx; omega
def IB {α:Type} {f:List α→α→(List α→Option ρ)→Option ρ} (h:∀v y kn,v.length≤1000000→f v y kn=kn (v++[y])):∀{xs:List α} {v:List α} {K:List α→Option ρ},v.length+xs.length≤1000000→xM f xs v K=K (v++xs)
 |[],v,K,_=>by simp[xM]
 |x::xs,v,K,hl=>by
  simp only[cP] at hl;rw[xM,h v x _ (by omega),IB h (by simp; omega)]; simp
def adc (h:MOk m):l5 m.2=some (iA m.2):=by
 unfold l5;rw[Đ];simp only[Bool.and_eq_true,decide_eq_true_eq,List.all_eq_true];exact⟨by have:=h.n4; omega,fun x hx=>by have:=h.len5 x hx; omega⟩
def RO (h:MOk m):(iA m.2).length≤150:=by rw[LS]; exact h.prod
def SI (h:MOk m):ī (iA m.2) (Ø (iA m.2)) m=some (ĝ m.2,m):=by
 have h2:∀w∈iA m.2,ĥ m w=some (oD m.2 w):=fun w hw=>h.wgt (Ep.1 hw)
 have h3:∀w∈iA m.2,đ m w=oD m.2 w:=fun w hw=>by unfold đ; rw[h2 w hw]; rfl
 rw[Ò,abm (fun w hw=>by rw[h2 w hw,h3 w hw]) (by have:=RO h; omega),Lg h3]; rfl
def IP (h:MOk m):rz m=some (ĝ m.2):=by
 unfold rz P3;have hl:=RO h;rw[adc h,À,IB (fun v y kn hv=>by unfold A5; rw[Đ (Û (by simp; omega))]) (by simp; omega),List.nil_append,SI h];rfl
def adY (hs:In m.1) (hn:m.2.length≤1000):Ef m=some (if Ļ m≠0 then([],Ļ m) else(ĝ m.2,0)):=by
 unfold Ef Qi;rw[mw hs hn,À]
 by_cases hc:Ļ m=0
 ·rw[Ì (by simp[ine,hc]),if_neg (by simp[hc]),IP ((ň m).1 hc)]; rfl
 ·rw[Ù (by simp[ine,hc]),if_pos hc]
end
def YI {ρ:Type} (n:Nat) (p:Nat→Bool) (K0 K1:Option ρ) {f:Int→(Int→Option ρ)→Option ρ} (h:∀i:Nat,i<n→∀kn,f i kn=if p i then kn ((i:Int)+1) else K0) (hn:∀kn,f n kn=K1):Ê f 0=if (List.range n).all p then K1 else K0:=by
 have:=Š (List.range n) (fun i=>!p i) (fun _=>K0) K0 K1 (f:=f) (fun _=>rfl) (fun i a hi ha kn=>by
  obtain⟨_,rfl⟩:=cE.1 ha;rw[fJ] at hi;rw[h i hi kn,List.getElem_range]
  cases p i<;>rfl) (fun kn=>by rw[fJ]; exact hn kn)
 rw[this]
 have e:(List.range n).any (fun i=>!p i)=!(List.range n).all p:=by rw[List.all_eq_not_any_not]; simp
 rw[e]
 cases(List.range n).all p<;>rfl
def rr:List Mx→Way→Bool
 |[],[]=>true
 |m::ms,l::ls=>decide (kJ l=m.2)&&rr ms ls
 |_,_=>false
def OZ:∀{ms:List Mx} {w:Way},(∀x∈ms,x.2.Pairwise (·<·))→(rr ms w=true↔Ĩ ms w)
 |[],[],_=>by simp[rr,Ĩ]
 |[],_::_,_=>by simp[rr,Ĩ]
 |_::_,[],_=>by simp[rr,Ĩ]
 |m::ms,l::ls,h=>by
  rw[rr,Ĩ,cD,decide_eq_true_eq,OZ fun x hx=>h x (cZ _ hx)];have hm:=h m (by simp);refine and_congr ⟨fun e=>by rw[←e]; exact(ņ l).symm,fun e=>?_⟩ Iff.rfl;exact gw (fun a b _ _ h1 h2=>Int.le_antisymm h1 h2) (i6 l) (hm.imp fun h=>Int.le_of_lt h) ((ņ l).trans e)
def acz {ms:List Mx} {w:Way} (hl:w.length=ms.length):rr ms w=(List.range ms.length).all fun i=>match ms[i]?,w[i]? with|some m,some l=>decide (kJ l=m.2)|_,_=>false:=by
 induction ms generalizing w with
 |nil =>
  have:w=[]:=cR.1 hl;subst this; rfl
 |cons m ms ih =>
  cases w with
  |nil=>simp at hl
  |cons l w =>
   rw[rr,ih (by simpa using hl),cP,List.range_succ_eq_map,fk,List.all_map];rfl
def row_eq {l m:List Int} (hl:l.length=m.length) (hm:m.length≤5):(l.getD 0 0=m.getD 0 0∧l.getD 1 0=m.getD 1 0∧l.getD 2 0=m.getD 2 0∧l.getD 3 0=m.getD 3 0∧l.getD 4 0=m.getD 4 0)↔l=m:=by
 constructor
 ·intro⟨h0,h1,h2,h3,h4⟩;refine List.ext_getElem hl fun i hi hi'=>?_
  have e:∀k:Nat,l.getD k 0=m.getD k 0→k=i→l[i]=m[i]:=fun k hk e=>by
   subst e;simpa[dV,cA hi,cA hi'] using hk
  have:i=0∨i=1∨i=2∨i=3∨i=4:=by omega
  rcases this with h|h|h|h|h
  ·exact e 0 h0 h.symm
  ·exact e 1 h1 h.symm
  ·exact e 2 h2 h.symm
  ·exact e 3 h3 h.symm
  ·exact e 4 h4 h.symm
 ·rintro rfl; simp
def aeU {m:ő} (h:MOk m) {w:Way} (hw:∀l∈w,l.length≤100000):Eb m w=some (rr m.2 w):=by
 unfold Eb JI;have hn:=h.n4
 by_cases hl:w.length=m.2.length
 ·rw[Ì (by simp[ine,Ò]; omega),acz hl];have hp:∀i,i<m.2.length→∃x l,m.2[i]?=some x∧w[i]?=some l:=fun i hi=>⟨_,_,cA hi,cA (by omega)⟩;refine eh (YI m.2.length (fun i=>match m.2[i]?,w[i]? with|some m,some l=>decide (kJ l=m.2)|_,_=>false) (some false) (some true) (fun i hi kn=>?_) (fun kn=>?_)) ?_
  ·obtain⟨x,l,hx,hwl⟩:=hp i hi
   try dsimp only
   unfold qB;have hx5:=h.len5 x (List.mem_of_getElem? hx);have hl1:=hw l (List.mem_of_getElem? hwl);rw[Ñ (by omega),È hwl,È hx,hx,hwl];dsimp only
   by_cases hll:l.length=x.2.length
   ·rw[Ì (by simp[ine,Ò]; omega)];unfold yx;rw[Đ (Û (by omega)),À,IB (fun v y kn hv=>by unfold wR; rw[Đ (Û (by simp; omega))]) (by simp; omega),List.nil_append,Đ (Û (by omega))];unfold Ea;rw[À,À,Py];have hr:=row_eq (l:=kJ l) (m:=x.2) (by rw[(ņ l).length_eq]; exact hll) hx5
    by_cases he:kJ l=x.2
    ·obtain⟨e0,e1,e2,e3,e4⟩:=hr.2 he;rw[e0,e1,e2,e3,e4,Ì (by simp[kQ]),Ó (by omega) (by omega),if_pos (by simpa using he)]
    ·rw[Ù,if_neg (by simpa using he)]
     cases hb:(!((kQ ((kJ l).getD 0 0) (x.2.getD 0 0))&&((kQ ((kJ l).getD 1 0) (x.2.getD 1 0))&&((kQ ((kJ l).getD 2 0) (x.2.getD 2 0))&&((kQ ((kJ l).getD 3 0) (x.2.getD 3 0))&&((kQ ((kJ l).getD 4 0) (x.2.getD 4 0))&&true)))))) with
     |true=>rfl
     |false =>
      refine absurd (hr.1 ?_) he;simpa[kQ] using hb
   ·rw[Ù (by simp[ine,Ò]; omega),if_neg];intro e;simp only[decide_eq_true_eq] at e;have:=(ņ l).length_eq;rw[e] at this;exact hll this.symm
  ·try dsimp only
   unfold qB;rw[Ì (by simp[ilt,Ò]; omega)]
  ·cases(List.range m.2.length).all (fun i=>match m.2[i]?,w[i]? with|some m,some l=>decide (kJ l=m.2)|_,_=>false)<;>rfl
 ·rw[Ù (by simp[ine,Ò]; omega)];congr 1
  symm
  clear hw
  have key:∀{ms:List Mx} {w:Way},w.length≠ms.length→rr ms w=false:=by
   intro ms
   induction ms with
   |nil=>intro w h; cases w with|nil=>exact absurd rfl h|cons _ _=>rfl
   |cons x ms ih =>
    intro w h
    cases w with
    |nil=>rfl
    |cons l w=>rw[rr,ih (by simpa using h),Bool.and_false]
  exact key hl
def nq (m:ő) (w:Way):Int:=if Ļ m≠0 then Ļ m else if rr m.2 w then 0 else 1
def EB {m:ő} (hs:In m.1) (hn:m.2.length≤1000) {w:Way} (hw:∀l∈w,l.length≤100000):pH m w=some (nq m w):=by
 unfold pH JX nq;rw[mw hs hn,À]
 by_cases hc:Ļ m=0
 ·rw[Ì (by simp[ine,hc]),if_neg (by simp[hc]),aeU ((ň m).1 hc) hw,À]
  cases rr m.2 w<;>rfl
 ·rw[Ù (by simp[ine,hc]),if_pos hc]
def mg {m:ő} {w:Way}:nq m w=0↔MOk m∧Ĩ m.2 w:=by
 unfold nq
 by_cases hc:Ļ m=0
 ·have h:=(ň m).1 hc;rw[if_neg (by simp[hc])];have:=OZ (w:=w) fun x hx=>(h.mix hx).asc
  cases hi:rr m.2 w with
  |true=>simp[this.1 hi,h]
  |false =>
   exact⟨fun e=>absurd (show(1:Int)=0 from e) (by decide),fun e=>absurd (this.2 e.2) (by simp[hi])⟩
 ·rw[if_pos hc];exact⟨fun e=>absurd e hc,fun⟨e,_⟩=>absurd ((ň m).2 e) hc⟩
section
variable {ρ:Type}
def yv {α β:Type} (l:List α) (g:α→β) (K:List β→Option ρ) {f:Int×List β→(Int×List β→Option ρ)→Option ρ}
 (h:∀(i:Nat) (a:α),i<l.length→l[i]?=some a→∀(v:List β) kn,v.length=i→f (i,v) kn=kn ((i:Int)+1,v++[g a])) (hn:∀(v:List β) kn,f (l.length,v) kn=K v):Ê f (0,[])=K (l.map g):=by
 refine ģ l (fun i=>(l.take i).map g) _ rfl (fun i a hi ha kn=>?_) (fun kn=>?_)
 ·rw[h i a hi ha _ kn (by simp; omega),take_succ ha,ff]; rfl
 ·rw[hn,fA]
end
def la (m:ő) (w:Way) (d:Int) (l:List Int):List Int:=kJ (l.map fun x=>gM m.2 w x d)
def aaZ (m:ő) (w:Way) (c:Cmp):Cmp:=(c.1,c.2.1,la m w c.2.1 c.2.2.1,la m w c.2.1 c.2.2.2.1,c.2.2.2.2)
def trP (m:ő) (w:Way):Ğ :=
 (m.1.1,m.1.2.1,m.1.2.2.1.map (fun u=>(gM m.2 w u.1 u.2,u.2)),m.1.2.2.2.1.map (fun l=>(gM m.2 w l.1 l.2.1.1,l.2)),m.1.2.2.2.2.1.map (aaZ m w),m.1.2.2.2.2.2.map (fun n=>(gM m.2 w n.1 n.2,n.2)))
section
variable {ρ:Type} {m:ő} {w:Way}
def MOk.who (h:MOk m) (hw:Ĩ m.2 w) (x d:Int):pF m w x d=some (gM m.2 w x d) :=
 who_ok hw (by have:=h.n4; omega) (fun y hy=>by have:=h.len5 y hy; omega) x d
def tr_L0 (h:MOk m) (hw:Ĩ m.2 w) (k0:List (Int×Int)→Option ρ):Ê (fun(v:Int×List (Int×Int)) kk=>jG m w m.1.2.2.1 (Ø m.1.2.2.1) v.1 v.2 (fun a b=>kk (a,b)) k0) ((0:Int),[])=k0 (m.1.2.2.1.map fun u=>(gM m.2 w u.1 u.2,u.2)):=by
 have hn:=h.good.nU
 refine yv m.1.2.2.1 (fun u:Int×Int=>((gM m.2 w u.1 u.2,u.2):Int×Int)) k0 (fun i a hi ha v kn hv=>?_) (fun v kn=>?_)<;>(try dsimp only)<;>unfold jG
 ·rw[Ñ hi,È ha,h.who hw,À,Đ (Û (by simp; omega)),Ë hi (by omega)]
 ·rw[ß]
def tr_L1 (h:MOk m) (hw:Ĩ m.2 w) (k0:List Mi→Option ρ):Ê (fun(v:Int×List Mi) kk=>jF m w m.1.2.2.2.1 (Ø m.1.2.2.2.1) v.1 v.2 (fun a b=>kk (a,b)) k0) ((0:Int),[])=k0 (m.1.2.2.2.1.map fun l=>(gM m.2 w l.1 l.2.1.1,l.2)):=by
 have hn:=h.good.nL
 refine yv m.1.2.2.2.1 (fun l:Mi=>((gM m.2 w l.1 l.2.1.1,l.2):Mi)) k0 (fun i a hi ha v kn hv=>?_) (fun v kn=>?_)<;>(try dsimp only)<;>unfold jF
 ·rw[Ñ hi,È ha,h.who hw,À,Đ (Û (by simp; omega)),Ë hi (by omega)]
 ·rw[ß]
def B9 (h:MOk m) (hw:Ĩ m.2 w) (d:Int) {l:List Int} (hl:l.length≤1000):iP l d m w=some (la m w d l):=by
 unfold iP oZ;rw[yv l (fun x:Int=>(gM m.2 w x d:Int)) (fun z=>è (î z.length) (some (wj z))) (fun i a hi ha v kn hv=>?_) (fun v kn=>?_),Đ (Û (by simp; omega)),Py]; rfl
 ·try dsimp only
  unfold ix;rw[Ñ hi,È ha,h.who hw,À,Đ (Û (by simp; omega)),Ë hi (by omega)]
 ·try dsimp only
  unfold ix;rw[ß]
def tr_L2 (h:MOk m) (hw:Ĩ m.2 w) (k0:List Cmp→Option ρ):Ê (fun(v:Int×List Cmp) kk=>jE m w m.1.2.2.2.2.1 (Ø m.1.2.2.2.2.1) v.1 v.2 (fun a b=>kk (a,b)) k0) ((0:Int),[])=k0 (m.1.2.2.2.2.1.map (aaZ m w)):=by
 have hn:=h.good.nC
 refine yv m.1.2.2.2.2.1 (aaZ m w) k0 (fun i a hi ha v kn hv=>?_) (fun v kn=>?_)<;>(try dsimp only)<;>unfold jE
 ·obtain⟨p1,p2⟩:=h.good.size.piles a (cI ha);rw[Ñ hi,È ha,B9 h hw _ p1,À,B9 h hw _ p2,À,Đ (Û (by simp; omega)),Ë hi (by omega)];rfl
 ·rw[ß]
def tr_L3 (h:MOk m) (hw:Ĩ m.2 w) (k0:List (Int×Int)→Option ρ):Ê (fun(v:Int×List (Int×Int)) kk=>jD m w m.1.2.2.2.2.2 (Ø m.1.2.2.2.2.2) v.1 v.2 (fun a b=>kk (a,b)) k0) ((0:Int),[])=k0 (m.1.2.2.2.2.2.map fun n=>(gM m.2 w n.1 n.2,n.2)):=by
 have hn:=h.good.nK
 refine yv m.1.2.2.2.2.2 (fun n:Int×Int=>((gM m.2 w n.1 n.2,n.2):Int×Int)) k0 (fun i a hi ha v kn hv=>?_) (fun v kn=>?_)<;>(try dsimp only)<;>unfold jD
 ·rw[Ñ hi,È ha,h.who hw,À,Đ (Û (by simp; omega)),Ë hi (by omega)]
 ·rw[ß]
def mA (h:MOk m) (hw:Ĩ m.2 w):Α m w=some (trP m w):=by
 have h1:=h.good.nG;unfold Α t7 trP;rw[Đ (Û (by omega)),tr_L0 h hw,tr_L1 h hw,tr_L2 h hw,tr_L3 h hw]
end
def Rx {l:List Int} {x:Int} (h:x∈l):∃k,l.findIdx? (·==x)=some k∧l[k]?=some x:=by
 cases hf:l.findIdx? (·==x) with
 |none =>
  have:=dD.1 hf x h;simp at this
 |some k =>
  obtain⟨hk,he,_⟩:=dK.1 hf;exact⟨k,rfl,by rw[cA hk]; simpa using he⟩
def Iz {l:List Int} {x:Int} (h:x∉l):l.findIdx? (·==x)=none:=by
 rw[dD];intro y hy;simp only[beq_eq_false_iff_ne];exact fun e=>h (e▸hy)
def idx_at {l:List Int} (hn:l.Nodup) {k:Nat} {x:Int} (h:l[k]?=some x):l.findIdx? (·==x)=some k:=by
 obtain⟨j,hj,hx⟩:=Rx (cI h);obtain⟨h1,e1⟩:=cE.1 h;obtain⟨h2,e2⟩:=cE.1 hx;rw[hj,(List.getElem_inj hn).1 (e2.trans e1.symm)]
def Ya {d d0:Int} {l k:List Int} (hl:l.Nodup) (hk:k.Nodup) (hp:l.Perm k) (x:Int):stp d (d0,k) l (stp d (d0,l) k x)=x:=by
 unfold stp
 by_cases hd:d0<d
 ·simp only[if_pos hd]
  by_cases hx:x∈k
  ·obtain⟨i,h1,h2⟩:=Rx hx;rw[h1];dsimp only
   have hi:i<l.length:=by rw[hp.length_eq]; exact(cE.1 h2).1
   have e:l[i]?=some (l.getD i 0):=by rw[dV,cA hi]; rfl
   rw[idx_at hl e];dsimp only;rw[List.getD_eq_getElem?_getD,h2]; rfl
  ·rw[Iz hx];dsimp only;rw[Iz fun h=>hx (hp.subset h)]
 ·simp only[if_neg hd]
def VS {d:Int} {m:Mx} {l:List Int} (hp:l.Perm m.2) (x:Int):stp d m l x=x∨(m.1<d∧x∈m.2∧stp d m l x∈m.2):=by
 unfold stp
 by_cases hd:m.1<d
 ·simp only[if_pos hd]
  by_cases hx:x∈l
  ·obtain⟨i,h1,h2⟩:=Rx hx;rw[h1];dsimp only
   have hi:i<m.2.length:=by rw[←hp.length_eq]; exact(cE.1 h2).1
   exact .inr ⟨hd,hp.subset hx,by rw[dV,cA hi]; exact eT hi⟩
  ·rw[Iz hx];exact .inl rfl
 ·simp only[if_neg hd];exact .inl trivial
def Xd:List Mx→Way→Int→Int→Int
 |m::ms,l::ls,x,d=>Xd ms ls (stp d (m.1,l) m.2 x) d
 |_,_,x,_=>x
def adV {l:List Int} (h:l.Pairwise (·<·)):l.Nodup:=h.imp fun h=>Int.ne_of_lt h
def Pr:∀{ms:List Mx} {w:Way},Ĩ ms w→(∀x∈ms,x.2.Nodup)→∀x d,gM ms w (Xd ms w x d) d=x
 |[],[],_,_,x,d=>rfl
 |m::ms,l::ls,h,hn,x,d=>by
  rw[Xd,gM,Pr h.2 fun y hy=>hn y (cZ _ hy)];exact Ya (d0:=m.1) (h.1.nodup_iff.2 (hn m (by simp))) (hn m (by simp)) h.1 x
def Ld:∀{ms:List Mx} {w:Way},Ĩ ms w→(∀x∈ms,x.2.Nodup)→∀x d,Xd ms w (gM ms w x d) d=x
 |[],[],_,_,x,d=>rfl
 |m::ms,l::ls,h,hn,x,d=>by
  rw[Xd,gM];have:=Ya (d:=d) (d0:=m.1) (l:=m.2) (k:=l) (hn m (by simp)) (h.1.nodup_iff.2 (hn m (by simp))) h.1.symm (gM ms ls x d);rw[show stp d (m.1,l) m.2 (stp d m l (gM ms ls x d))=_ from this];exact Ld h.2 (fun y hy=>hn y (cZ _ hy)) x d
def VJ:∀{ms:List Mx} {w:Way} (Q:Int→Prop) {d:Int},Ĩ ms w→(∀m∈ms,m.1<d→∀x∈m.2,Q x)→∀{x:Int},Q x→Q (gM ms w x d)
 |[],[],Q,d,_,_,x,hx=>hx
 |m::ms,l::ls,Q,d,h,hm,x,hx=>by
  have:=VJ (x:=x) Q h.2 (fun y hy=>hm y (cZ _ hy)) hx;rw[gM];rcases VS (d:=d) h.1 (gM ms ls x d) with e|⟨e1,_,e2⟩
  ·rw[e]; exact this
  ·exact hm m (by simp) e1 _ e2
def Ig:∀{ms:List Mx} {w:Way} {d:Int},Ĩ ms w→∀{x:Int},(∀m∈ms,m.1<d→x∉m.2)→gM ms w x d=x
 |[],[],d,_,x,_=>rfl
 |m::ms,l::ls,d,h,x,hm=>by
  rw[gM,Ig h.2 fun y hy=>hm y (cZ _ hy)];rcases VS (d:=d) h.1 x with e|⟨e1,e2,_⟩
  ·exact e
  ·exact absurd e2 (hm m (by simp) e1)
def Sk:∀{ms:List Mx} {w:Way} {d e:Int},Ĩ ms w→ms.Pairwise (fun a b=>a.1<b.1)→d≤e→∀{x:Int},(∀m∈ms,d≤m.1→m.1<e→x∉m.2)→gM ms w x e=gM ms w x d
 |[],[],d,e,_,_,_,x,_=>rfl
 |m::ms,l::ls,d,e,h,hs,hde,x,hm=>by
  rw[dk] at hs;rcases gH m.1 d with hlt|hge
  ·rw[gM,gM,Sk h.2 hs.2 hde fun y hy=>hm y (cZ _ hy)]
   have e1:∀y,stp e m l y=stp d m l y:=fun y=>by unfold stp; rw[if_pos hlt,if_pos (by omega)]
   exact e1 _
  ·have e1:gM (m::ms) (l::ls) x e=x:=Ig h fun y hy hye=>by
    rcases cH.1 hy with rfl|hy'
    ·exact hm y (by simp) hge hye
    ·exact hm y hy (by have:=hs.1 y hy'; omega) hye
   have e2:gM (m::ms) (l::ls) x d=x:=Ig h fun y hy hyd=>by
    rcases cH.1 hy with rfl|hy'
    ·omega
    ·have:=hs.1 y hy'; omega
   rw[e1,e2]
def Cv {b:Ğ} (hi:b.2.1.Pairwise fun a b=>a.1<b.1) {id day:Int}:mD (iz b) id day=0↔∃g,þ b id=some g∧g.2.1≤day:=by
 rw[←VV hi];unfold GA
 cases þ b id with
 |none=>simp
 |some g =>
  dsimp only
  by_cases h:day<g.2.1
  ·rw[if_pos h]; simp; omega
  ·rw[if_neg h]; simp; omega
def B4 {b:Ğ} (hi:b.2.1.Pairwise fun a b=>a.1<b.1) {id day:Int}:abc (iz b) id day=0↔LQ day=true∧∃g,þ b id=some g∧g.2.1≤day:=by
 unfold abc
 cases LQ day with
 |false=>simp
 |true=>simp[Cv hi]
def UL {b:Ğ} (hi:b.2.1.Pairwise fun a b=>a.1<b.1) {i:Nat} {l:Mi}:Rp b (iz b) i l=0↔nS l.2.1 0 20000=true∧inP l.2.2 0 1048576=true∧(∃g,þ b l.1=some g∧g.2.1≤l.2.1.1) ∧
 (∀x∈b.2.2.2.1.take i,x.1=l.1→¬(x.2.1.1≤l.2.1.2∧l.2.1.1≤x.2.1.2))∧∀u∈b.2.2.1,u.1=l.1→inP u.2 l.2.1.1 l.2.1.2=false:=by
 unfold Rp;rw[←Cv hi]
 cases nS l.2.1 0 20000 with
 |false=>simp
 |true =>
  cases inP l.2.2 0 1048576 with
  |false=>simp
  |true =>
   by_cases h:mD (iz b) l.1 l.2.1.1=0
   ·simp only[h,dA,cS,if_false,bne_self_eq_false,true_and]
    split
    ·rename_i h1;simp only[dj,cD,beq_iff_eq,decide_eq_true_eq] at h1;obtain⟨x,hx,e1,e2⟩:=h1;exact⟨fun e=>absurd e (by decide),fun e=>absurd e2 (e.1 x hx e1)⟩
    ·rename_i h1;simp only[dj,cD,beq_iff_eq,decide_eq_true_eq,not_exists,not_and] at h1
     split
     ·rename_i h2;simp only[dj,cD,beq_iff_eq] at h2;obtain⟨u,hu,e1,e2⟩:=h2;exact⟨fun e=>absurd e (by decide),fun e=>by have:=e.2 u hu e1; rw[e2] at this; cases this⟩
     ·rename_i h2;simp only[dj,cD,beq_iff_eq,not_exists,not_and] at h2;exact⟨fun _=>⟨fun x hx e ⟨p,q⟩=>h1 x hx e p q,fun u hu e=>by simpa using h2 u hu e⟩,fun _=>rfl⟩
   ·simp[h]
def Oh {b:Ğ} (hi:b.2.1.Pairwise fun a b=>a.1<b.1) {c:Cmp}:wq b (iz b) c=0↔(∀x∈c.2.2.1++c.2.2.2.1,(∃g,þ b x=some g∧g.2.1≤c.2.1)∧lh b x c.2.1=none) ∧
 (ý c.2.2.1 c.2.2.2.1).length≤1∧(ý c.2.2.2.1 c.2.2.1).length≤1∧(ý c.2.2.1 c.2.2.2.1).length+(ý c.2.2.2.1 c.2.2.1).length≠0:=by
 unfold wq;constructor
 ·intro h
  split at h
  ·cases h
  rename_i h1
  split at h
  ·cases h
  rename_i h2
  split at h
  ·cases h
  rename_i h3
  split at h
  ·cases h
  split at h
  ·cases h
  split at h
  ·cases h
  simp only[dj,not_exists,not_and,beq_iff_eq] at h1 h2;simp only[dj,not_exists,not_and,Option.isSome_iff_ne_none,ne_eq,Decidable.not_not] at h3;refine⟨fun x hx=>⟨(Cv hi).1 ?_,h3 x hx⟩,by omega,by omega,by omega⟩;rcases Jq (iz b) x c.2.1 with e|e|e
  ·exact e
  ·exact absurd e (h2 x hx)
  ·exact absurd e (h1 x hx)
 ·intro⟨h1,h2,h3,h4⟩;have hz:∀x∈c.2.2.1++c.2.2.2.1,mD (iz b) x c.2.1=0:=fun x hx=>(Cv hi).2 (h1 x hx).1;rw[if_neg,if_neg,if_neg,if_neg (by omega),if_neg (by omega),if_neg h4]
  ·simp only[dj,not_exists,not_and,Option.isSome_iff_ne_none,ne_eq,Decidable.not_not];exact fun x hx=>(h1 x hx).2
  ·simp only[dj,not_exists,not_and,beq_iff_eq]
   exact fun x hx e=>by rw[hz x hx] at e; cases e
  ·simp only[dj,not_exists,not_and,beq_iff_eq]
   exact fun x hx e=>by rw[hz x hx] at e; cases e
def Gp {b:Ğ} {x d:Int}:lh b x d=none↔∀l∈b.2.2.2.1,l.1=x→inP d l.2.1.1 l.2.1.2=false:=by
 unfold lh;rw[List.find?_eq_none];simp
def wt {m:ő} {w:Way} {d:Int} {l:List Int} {y:Int}:y∈la m w d l↔∃x∈l,gM m.2 w x d=y:=by
 unfold la;rw[(ņ _).mem_iff,List.mem_map]
section
variable {m:ő} {w:Way}
def MOk.nd (h:MOk m):∀x∈m.2,x.2.Nodup:=fun x hx=>adV (h.mix hx).asc
def MOk.inj (h:MOk m) (hw:Ĩ m.2 w) {d x y:Int} (e:gM m.2 w x d=gM m.2 w y d):x=y:=by
 rw[←Ld hw h.nd x d,e,Ld hw h.nd]
def MOk.whoG (h:MOk m) (hw:Ĩ m.2 w) {d x:Int} (hx:∃g,þ m.1 x=some g∧g.2.1≤d):∃g,þ m.1 (gM m.2 w x d)=some g∧g.2.1≤d :=
 VJ (fun y=>∃g,þ m.1 y=some g∧g.2.1≤d) hw (fun y hy hd z hz=>by
  obtain⟨g,h1,h2⟩:=(h.mix hy).known z hz
  exact⟨g,h1,by omega⟩) hx
def MOk.made (h:MOk m) (hw:Ĩ m.2 w) {x:Int} {g:õ} (hg:þ m.1 x=some g):gM m.2 w x g.2.1=x :=
 Ig hw fun y hy hd hx=>by
  obtain⟨g',h1,h2⟩:=(h.mix hy).known x hx;rw[hg] at h1; cases h1;omega
def MOk.loan (h:MOk m) (hw:Ĩ m.2 w) {l:Mi} (hl:l∈m.1.2.2.2.1) {d:Int} (hd:inP d l.2.1.1 l.2.1.2=true):gM m.2 w l.1 d=gM m.2 w l.1 l.2.1.1:=by
 simp only[inP,cD,decide_eq_true_eq] at hd;refine Sk hw h.days hd.1 fun y hy h1 h2 hx=>?_;have:=(Gp.1 ((h.mix hy).home _ hx).1) l hl rfl;simp only[inP,f6,decide_eq_false_iff_not] at this;omega
def acv (h:MOk m) (hw:Ĩ m.2 w) (d:Int) (A B:List Int):(ý (la m w d A) (la m w d B)).Perm ((ý A B).map fun x=>gM m.2 w x d):=by
 unfold ý;refine((ņ _).filter _).trans ?_;rw[List.filter_map];refine List.Perm.of_eq ?_;congr 1;refine List.filter_congr fun x hx=>?_;simp only[Function.comp];congr 1;rw[Bool.eq_iff_iff,List.contains_iff_mem,List.contains_iff_mem,wt];exact⟨fun⟨y,hy,e⟩=>h.inj hw e▸hy,fun hy=>⟨x,hy,rfl⟩⟩
def Yp (h:MOk m) (hw:Ĩ m.2 w) {d:Int} {l:List Int} (hp:vN l=true) (hk:∀x∈l,∃g,þ m.1 x=some g∧g.2.1≤d):vN (la m w d l)=true:=by
 obtain⟨h1,h2,h3⟩:=(Cd l).1 hp;refine(Cd _).2 ⟨fun y hy=>?_,?_,by unfold la; rw[(ņ _).length_eq,List.length_map]; exact h3⟩
 ·obtain⟨x,hx,rfl⟩:=wt.1 hy;obtain⟨g,hg,_⟩:=h.whoG hw (hk x hx);obtain⟨g1,g2⟩:=gO hg;have:=(h.good.gaugeR g1).2.2.2.1;rw[←g2]; exact this
 ·have hnd:(la m w d l).Nodup:=by
   unfold la;rw[(ņ _).nodup_iff];exact List.pairwise_map.2 (h2.imp fun hlt e=>by have:=h.inj hw e; omega)
  exact((i6 _).and hnd).imp fun⟨a,b⟩=>Int.lt_iff_le_and_ne.2 ⟨a,b⟩
def ago (h:MOk m) (hw:Ĩ m.2 w) {x d:Int} (ha:lh m.1 x d=none):lh (trP m w) (gM m.2 w x d) d=none:=by
 rw[Gp];intro l' hl' e;obtain⟨l,hl,rfl⟩:=dc.1 hl'
 cases hd:inP d l.2.1.1 l.2.1.2 with
 |false=>rfl
 |true =>
  rw[←h.loan hw hl hd] at e;have:=Gp.1 ha l hl (h.inj hw e);rw[hd] at this; cases this
def Jf {b:Ğ} (hi:b.2.1.Pairwise fun a b=>a.1<b.1):(Ú b).Nodup:=by
 unfold Ú List.Nodup;rw[List.pairwise_flatMap];refine⟨fun g _=>List.pairwise_map.2 ((vq b g).imp fun h e=>by cases e; omega),hi.imp fun hlt x hx y hy e=>?_⟩;obtain⟨d,_,rfl⟩:=List.mem_map.1 hx;obtain⟨d',_,rfl⟩:=List.mem_map.1 hy;simp only[Prod.mk.injEq] at e;omega
def wE {b:Ğ} {x d:Int}:(x,d)∈Ú b↔∃g∈b.2.1,g.1=x∧d∈å b g:=by
 unfold Ú;simp only[List.mem_flatMap,List.mem_map];constructor
 ·rintro⟨g,hg,d',hd,e⟩;cases e;exact⟨g,hg,rfl,hd⟩
 ·rintro⟨g,hg,rfl,hd⟩;exact⟨g,hg,d,hd,rfl⟩
def yN (h:MOk m) (hw:Ĩ m.2 w) {d:Int} {A:List Int} {x:Int}:(la m w d A).contains (gM m.2 w x d)=A.contains x:=by
 rw[fU,eX,eX,wt];exact⟨fun⟨y,hy,e⟩=>h.inj hw e▸hy,fun hy=>⟨x,hy,rfl⟩⟩
def agn (h:MOk m) (hw:Ĩ m.2 w) {x d:Int} (hn:(x,d)∈Ú m.1):(gM m.2 w x d,d)∈Ú (trP m w):=by
 obtain⟨g,hg,rfl,hd⟩:=wE.1 hn;have hgo:=vd h.good.ids hg;obtain⟨g',e1,_⟩:=h.whoG hw (x:=g.1) (d:=d) ⟨g,hgo,(h.good.day hg hd).1⟩;obtain⟨e2,e3⟩:=gO e1;refine wE.2 ⟨g',e2,e3,χ.2 ?_⟩;rcases χ.1 hd with rfl|⟨c,hc,e4,rfl⟩|⟨n,hnn,e4,rfl⟩
 ·rw[h.made hw hgo,hgo] at e1;cases e1;exact .inl rfl
 ·refine .inr (.inl ⟨aaZ m w c,dc.2 ⟨c,hc,rfl⟩,?_,rfl⟩);rw[e3];show(la m w c.2.1 c.2.2.1).contains _≠(la m w c.2.1 c.2.2.2.1).contains _;rw[yN h hw,yN h hw];exact e4
 ·exact .inr (.inr ⟨_,dc.2 ⟨n,hnn,rfl⟩,by rw[e3,e4],rfl⟩)
def SD (h:MOk m) (hw:Ĩ m.2 w) {y d:Int} (hn:(y,d)∈Ú (trP m w)):∃x,gM m.2 w x d=y∧(x,d)∈Ú m.1:=by
 obtain⟨g,hg,rfl,hd⟩:=wE.1 hn;have hg:g∈m.1.2.1:=hg;have hgo:=vd h.good.ids hg;have hx:gM m.2 w (Xd m.2 w g.1 d) d=g.1:=Pr hw h.nd _ _
 have fin:∀x,gM m.2 w x d=g.1→(∃g',þ m.1 x=some g')→(∀g':õ,g'.1=x→d∈å m.1 g')→∃x,gM m.2 w x d=g.1∧(x,d)∈Ú m.1:=fun x e ⟨g',e1⟩ e2=>by
  obtain⟨e3,e4⟩:=gO e1;exact⟨x,e,wE.2 ⟨g',e3,e4,e2 g' e4⟩⟩
 rcases χ.1 hd with e|⟨c',hc',e4,e5⟩|⟨n',hn',e4,e5⟩
 ·subst e;exact⟨g.1,h.made hw hgo,wE.2 ⟨g,hg,rfl,rE g⟩⟩
 ·obtain⟨c,hc,rfl⟩:=dc.1 hc';have e5:c.2.1=d:=e5;subst e5;have e4:(la m w c.2.1 c.2.2.1).contains g.1≠(la m w c.2.1 c.2.2.2.1).contains g.1:=e4;rw[←hx,yN h hw,yN h hw] at e4;refine fin _ hx ?_ fun g' e=>χ.2 (.inr (.inl ⟨c,hc,by rw[e]; exact e4,rfl⟩))
  have:Xd m.2 w g.1 c.2.1∈c.2.2.1++c.2.2.2.1:=by
   rw[cG,←eX,←eX]
   cases h1:c.2.2.1.contains (Xd m.2 w g.1 c.2.1) with
   |true=>exact .inl rfl
   |false =>
    rw[h1] at e4;exact .inr (by simpa using e4)
  obtain⟨⟨g',e,_⟩,_⟩:=h.good.pile hc this;exact⟨g',e⟩
 ·obtain⟨n,hnl,rfl⟩:=dc.1 hn';have e5:n.2=d:=e5;have e4:gM m.2 w n.1 n.2=g.1:=e4;subst e5;obtain⟨_,g',e,_⟩:=(B4 h.good.ids).1 (h.good.looks n hnl);exact fin n.1 e4 ⟨g',e⟩ fun g'' e=>χ.2 (.inr (.inr ⟨n,hnl,e.symm,rfl⟩))
def aeH (m:ő) (w:Way) (n:Int×Int):Int×Int:=(gM m.2 w n.1 n.2,n.2)
def afS (h:MOk m):(trP m w).2.1.Pairwise fun a b=>a.1<b.1:=h.good.ids
def tr_len (h:MOk m) (hw:Ĩ m.2 w):(Ú (trP m w)).length=(Ú m.1).length:=by
 have h1:(Ú (trP m w)).length≤((Ú m.1).map (aeH m w)).length:=fX (Jf (afS h)) fun n hn=>by
  obtain⟨x,e,hx⟩:=SD (y:=n.1) (d:=n.2) h hw hn;exact dc.2 ⟨(x,n.2),hx,Prod.ext e rfl⟩
 have h2:((Ú m.1).map (aeH m w)).length≤(Ú (trP m w)).length:=by
  have hnd:((Ú m.1).map (aeH m w)).Nodup:=by
   refine List.pairwise_map.2 ((Jf h.good.ids).imp ?_);intro a b hne e;unfold aeH at e;simp only[Prod.mk.injEq] at e;obtain⟨e1,e2⟩:=e;rw[e2] at e1;exact hne (Prod.ext (h.inj hw e1) e2)
  refine fX hnd fun n hn=>?_;obtain⟨⟨x,d⟩,hx,rfl⟩:=dc.1 hn;exact agn h hw hx
 rw[dz] at h1 h2;omega
def wg (h:MOk m) (hw:Ĩ m.2 w):Ν (trP m w):=by
 have hg:=h.good;have hids:=afS (w:=w) h;have hsh:iz (trP m w)=iz m.1:=rfl;have hgo:∀x,þ (trP m w) x=þ m.1 x:=fun _=>rfl;have hlen:=tr_len h hw;refine⟨hg.film,hg.nG,by simpa[trP] using hg.nU,by simpa[trP] using hg.nL,by simpa[trP] using hg.nC,by simpa[trP] using hg.nK,hg.gauge,hids,?_,?_,?_,?_,by rw[hlen]; exact hg.nodes,by rw[hlen]; simpa[trP] using hg.links⟩
 ·intro u' hu';obtain⟨u,hu,rfl⟩:=dc.1 hu';obtain⟨e1,e2⟩:=(B4 hg.ids).1 (hg.uses u hu);exact(B4 hids).2 ⟨e1,h.whoG hw e2⟩
 ·intro i l' hl'
  obtain⟨l,hl,rfl⟩:∃l,m.1.2.2.2.1[i]?=some l∧(gM m.2 w l.1 l.2.1.1,l.2)=l':=by
   have:(m.1.2.2.2.1.map (fun l:Mi=>(gM m.2 w l.1 l.2.1.1,l.2)))[i]?=some l':=hl';rw[eA] at this
   cases hx:m.1.2.2.2.1[i]? with
   |none=>rw[hx] at this; cases this
   |some l=>rw[hx] at this; exact⟨l,rfl,by simpa using this⟩
  have hlm:=cI hl;obtain⟨e1,e2,e3,e4,e5⟩:=(UL hg.ids).1 (hg.loans i l hl);refine(UL hids).2 ⟨e1,e2,h.whoG hw e3,fun x' hx' ex hov=>?_,fun u' hu' eu=>?_⟩
  ·have hx':x'∈(m.1.2.2.2.1.map (fun l:Mi=>(gM m.2 w l.1 l.2.1.1,l.2))).take i:=hx';rw[←List.map_take] at hx';obtain⟨x,hx,rfl⟩:=List.mem_map.1 hx';have hxm:=List.mem_of_mem_take hx;have s1:=(tx hg hxm).1;have s2:=(tx hg hlm).1;dsimp only at ex hov
   have d1:inP (max x.2.1.1 l.2.1.1) x.2.1.1 x.2.1.2=true:=by simp[inP]; omega
   have d2:inP (max x.2.1.1 l.2.1.1) l.2.1.1 l.2.1.2=true:=by simp[inP]; omega
   rw[←h.loan hw hxm d1,←h.loan hw hlm d2] at ex;exact e4 x hx (h.inj hw ex) hov
  ·obtain⟨u,hu,rfl⟩:=List.mem_map.1 hu';dsimp only at eu ⊢
   cases hd:inP u.2 l.2.1.1 l.2.1.2 with
   |false=>rfl
   |true =>
    rw[←h.loan hw hlm hd] at eu;have:=e5 u hu (h.inj hw eu);rw[hd] at this; cases this
 ·intro i c' hc'
  obtain⟨c,hc,rfl⟩:∃c,m.1.2.2.2.2.1[i]?=some c∧aaZ m w c=c':=by
   have:(m.1.2.2.2.2.1.map (aaZ m w))[i]?=some c':=hc';rw[eA] at this
   cases hx:m.1.2.2.2.2.1[i]? with
   |none=>rw[hx] at this; cases this
   |some l=>rw[hx] at this; exact⟨l,rfl,by simpa using this⟩
  have hcm:=cI hc;obtain⟨n1,n2,n3,n4,n5,n6,n7⟩:=(jn c).1 (hg.nums hcm);have hp:=(Oh hg.ids).1 (hg.pilesOf hcm);have hk:∀x∈c.2.2.1++c.2.2.2.1,∃g,þ m.1 x=some g∧g.2.1≤c.2.1:=fun x hx=>(hp.1 x hx).1;have hnum:Z2 (aaZ m w c)=true:=(jn _).2 ⟨n1,n2,n3,n4,n5,Yp h hw n6 fun x hx=>hk x (du _ hx),Yp h hw n7 fun x hx=>hk x (dt _ hx)⟩;have l1:=(acv h hw c.2.1 c.2.2.1 c.2.2.2.1).length_eq;have l2:=(acv h hw c.2.1 c.2.2.2.1 c.2.2.1).length_eq;rw[dz] at l1 l2
  have hpi:wq (trP m w) (iz (trP m w)) (aaZ m w c)=0:=by
   refine(Oh hids).2 ⟨fun y hy=>?_,?_,?_,?_⟩
   ·have hy:y∈la m w c.2.1 c.2.2.1++la m w c.2.1 c.2.2.2.1:=hy
    obtain⟨x,hx,rfl⟩:∃x∈c.2.2.1++c.2.2.2.1,gM m.2 w x c.2.1=y:=by
     rcases cG.1 hy with hy|hy
     ·obtain⟨x,hx,e⟩:=wt.1 hy;exact⟨x,du _ hx,e⟩
     ·obtain⟨x,hx,e⟩:=wt.1 hy;exact⟨x,dt _ hx,e⟩
    exact⟨h.whoG hw (hk x hx),ago h hw (hp.1 x hx).2⟩
   ·show(ý (la m w c.2.1 c.2.2.1) (la m w c.2.1 c.2.2.2.1)).length≤1;rw[l1]; exact hp.2.1
   ·show(ý (la m w c.2.1 c.2.2.2.1) (la m w c.2.1 c.2.2.1)).length≤1;rw[l2]; exact hp.2.2.1
   ·show(ý (la m w c.2.1 c.2.2.1) (la m w c.2.1 c.2.2.2.1)).length+(ý (la m w c.2.1 c.2.2.2.1) (la m w c.2.1 c.2.2.1)).length≠0;rw[l1,l2]; exact hp.2.2.2
  have h0:=hg.compares i c hc;unfold oy at h0 ⊢;rw[hg.nums hcm] at h0;rw[hnum,hpi]
  have ht:((trP m w).2.2.2.2.1.take i).any (fun x=>x.1==(aaZ m w c).1)=(m.1.2.2.2.2.1.take i).any fun x=>x.1==c.1:=by
   show((m.1.2.2.2.2.1.map (aaZ m w)).take i).any _=_;rw[←List.map_take,List.any_map]; rfl
  rw[ht];simp only[dA,cS,if_false] at h0 ⊢
  split at h0
  ·cases h0
  ·rename_i h1; rw[if_neg h1]
 ·intro n' hn';obtain⟨n,hn,rfl⟩:=dc.1 hn';obtain⟨e1,e2⟩:=(B4 hg.ids).1 (hg.looks n hn);exact(B4 hids).2 ⟨e1,h.whoG hw e2⟩
end
section
variable {L:List Lk} {N:Nat}
def Si (h:ja L N):mr ((N:Int),L)=some (kj L N,0):=by
 have h2:=h.n60;unfold mr rQ;rw[kZ h,À];dsimp only;rw[Ì (by rfl),tT h.links h.n1 (by omega),À]
 cases kj L N<;>rfl
end
def XS (x y:List Int):List Int×List Int×Int:=if !vN x then([],[],1) else if !vN y then([],[],1) else(ý x y,ý y x,0)
def ad6 {x y:List Int} (hx:x.length≤100000) (hy:y.length≤100000):oO x y=some (XS x y):=by
 unfold oO FY XS;rw[DX (by omega),À]
 cases vN x with
 |false=>rfl
 |true =>
  rw[DX (by omega),À]
  cases vN y with
  |false=>rfl
  |true =>
   rw[xH (by omega) (by omega),À,xH (by omega) (by omega),À];rfl
def less (b:Ğ) (ids:List Int):Ğ:=(b.1,b.2.1,b.2.2.1,b.2.2.2.1,b.2.2.2.2.1.filter (fun c=>!ids.contains c.1),b.2.2.2.2.2)
section
variable {b:Ğ} {ids:List Int}
def Ν.distinct (h:Ν b):b.2.2.2.2.1.Pairwise fun a c=>a.1≠c.1:=by
 rw[List.pairwise_iff_getElem];intro i j hi hj hij he;have hz:=h.compares j _ (List.getElem?_eq_getElem hj);unfold oy at hz
 have hany:(b.2.2.2.2.1.take j).any (fun x=>x.1==b.2.2.2.2.1[j].1)=true:=by
  rw[dj];exact⟨b.2.2.2.2.1[i],cO.2 ⟨i,by rw[cW]; omega,by rw[eP]⟩,by simp[he]⟩
 rw[hany] at hz
 (repeat' split at hz)<;>first|omega|simp_all
def acM {α β:Type} (f g:α→List β):∀l:List α,(∀a∈l,(f a).length≤(g a).length)→(l.flatMap f).length≤(l.flatMap g).length
 |[],_=>cB _
 |a::l,h=>by
  rw[dw,dw,cF,cF];have:=h a (by simp);have:=acM f g l fun c hc=>h c (by simp[hc]);omega
def lt_len:∀{x y:List Int},x.Pairwise (·<·)→(∀a∈x,a∈y)→x.length≤y.length:=by
 intro x y hx h;exact(fX (hx.imp fun h=>by omega) h)
def Ν.less (h:Ν b) (ids:List Int):Ν (less b ids):=by
 have hsub:∀c∈(ZzM.less b ids).2.2.2.2.1,c∈b.2.2.2.2.1:=fun c hc=>(dS.1 hc).1;have hlen:(ZzM.less b ids).2.2.2.2.1.length≤b.2.2.2.2.1.length:=dY _ _
 have hdays:∀g,(å (ZzM.less b ids) g).length≤(å b g).length:=fun g=>lt_len (vq _ g) fun d hd=>by
  rcases χ.1 hd with e|⟨c,hc,h1,h2⟩|hn
  ·exact χ.2 (.inl e)
  ·exact χ.2 (.inr (.inl ⟨c,hsub c hc,h1,h2⟩))
  ·exact χ.2 (.inr (.inr hn))
 have hnodes:(Ú (ZzM.less b ids)).length≤(Ú b).length:=acM _ _ _ fun g _=>by rw[dz,dz]; exact hdays g
 have hN:=h.nodes;have hC:=h.nC;refine⟨h.film,h.nG,h.nU,h.nL,Nat.le_trans hlen h.nC,h.nK,h.gauge,h.ids,h.uses,h.loans,fun i c hc=>?_,h.looks,Nat.le_trans hnodes hN,by omega⟩;have hcm:=hsub c (List.mem_of_getElem? hc);obtain⟨j,hj,hjc⟩:=List.mem_iff_getElem.1 hcm;have hz:=h.compares j c (by rw[List.getElem?_eq_getElem hj,hjc]);unfold oy at hz ⊢
 split at hz
 ·omega
 rename_i h1
 split at hz
 ·omega
 rw[if_neg h1,if_neg ?_]
 ·exact hz
 ·intro hany;obtain⟨x,hx,he⟩:=dj.1 hany;obtain⟨k,hk,hkx⟩:=cO.1 hx;rw[cW] at hk;rw[eP] at hkx;obtain⟨hi,hic⟩:=cE.1 hc;have hp:=dh.1 ((h.distinct.sublist List.filter_sublist:(ZzM.less b ids).2.2.2.2.1.Pairwise fun a c=>a.1≠c.1)) k i (by omega) hi (by omega);rw[hkx,hic] at hp;exact hp (eq_of_beq he)
end
abbrev zC:Cmp:=((0:Int),(0:Int),[],[],(0:Int),(0:Int),(0:Int),(0:Int))
section
variable {ρ α:Type}
def ac2 (z0:α) (K:List α→Option ρ) (z:Int×List α):Option ρ :=
 è ((ile (0:Int) z.1)&&(ile z.1 (ñ z.2))) (è ((ile (0:Int) z.1)&&(ile z.1 (ñ (List.take (Int.toNat z.1) z.2++List.replicate (List.length z.2-(Int.toNat z.1)) z0++List.drop ((Int.toNat z.1)+(List.length z.2-(Int.toNat z.1))) z.2))))
  (K (List.take (Int.toNat z.1) (List.drop 0 (List.take (Int.toNat z.1) z.2++List.replicate (List.length z.2-(Int.toNat z.1)) z0++List.drop ((Int.toNat z.1)+(List.length z.2-(Int.toNat z.1))) z.2)))))
def Xu (z0:α) (K:List α→Option ρ) {i:Nat} {s:List α} (h:i≤s.length):ac2 z0 K ((i:Int),s)=K (s.take i):=by
 unfold ac2
 have g1:((ile (0:Int) (i:Int))&&(ile (i:Int) (ñ s)))=true:=by simp[ile,ñ]; omega
 dsimp only;rw[Đ g1]
 have g2:((ile (0:Int) (i:Int))&&(ile (i:Int) (ñ (List.take (Int.toNat (i:Int)) s++List.replicate (List.length s-(Int.toNat (i:Int))) z0++List.drop ((Int.toNat (i:Int))+(List.length s-(Int.toNat (i:Int)))) s))))=true:=by
  simp[ile,ñ]; omega
 rw[Đ g2,cQ,List.drop_zero,cN,fm (by simp; omega),List.take_take,Nat.min_self]
def aay (p:α→Bool) {a:List α} {F:Int→Int→List α→(Int→Int→List α→Option ρ)→Option ρ} {k0:Int×List α→Option ρ} {K:List α→Option ρ}
 (hF:∀(i j:Nat) (s:List α) (x:α),s.length=a.length→i<j→j<s.length→s[j]?=some x→x∈a→∀kn,F i j s kn=if p x then kn ((i:Int)+1) ((j:Int)+1) (s.set i x) else kn i ((j:Int)+1) s)
 (hE:∀(i:Nat) (s:List α) kn,i≤s.length→s.length=a.length→F i s.length s kn=k0 ((i:Int),s)) (hk:∀(i:Nat) (s:List α),i≤s.length→k0 ((i:Int),s)=K (s.take i))
 {z:Nat} (hz:z<a.length) (hp:∀x∈a.take z,p x=true) (hc:∀c,a[z]?=some c→p c=false) :
 Ê (fun(v:Int×Int×List α) kk=>F v.1 v.2.1 v.2.2 (fun x y w=>kk (x,y,w))) ((z:Int),((z:Int)+1),a)=K (a.filter p):=by
 refine Ę (fun x:Int×Int×List α=>∃i j:Nat,x.1=i∧x.2.1=j∧i<j∧j≤a.length∧x.2.2.length=a.length∧x.2.2.take i=(a.take j).filter p∧x.2.2.drop j=a.drop j) (fun x=>a.length-x.2.1.toNat) ?_
  ⟨z,z+1,rfl,by simp,by omega,by omega,rfl,?_,rfl⟩
 ·rintro⟨x1,x2,s⟩ ⟨i,j,h1,h2,hij,hja,hl,ht,hd⟩;simp only at h1 h2 hl ht hd;subst h1 h2;rcases cX j a.length with hj|hj
  ·refine .inr ?_
   have hsj:s[j]?=some a[j]:=by
    have h3:(s.drop j)[0]?=(a.drop j)[0]?:=by rw[hd]
    rw[ee,ee] at h3;simpa[cA hj] using h3
   have hta:(a.take (j+1)).filter p=(a.take j).filter p++if p a[j] then[a[j]] else[]:=by
    rw[take_succ (cA hj),eN];congr 1
    cases h:p a[j]<;>simp[h]
   have hdd:s.drop (j+1)=a.drop (j+1):=by
    have:=congrArg (List.drop 1) hd;simpa[fP,Nat.add_comm] using this
   have hf:=hF i j s a[j] hl hij (by omega) hsj (eT hj)
   cases h:p a[j] with
   |false =>
    refine⟨(i,(j:Int)+1,s),⟨i,j+1,rfl,by simp,by omega,by omega,hl,?_,hdd⟩,by simp; omega,fun kn=>by dsimp only; rw[hf,h]; rfl⟩;rw[hta,h]; simpa using ht
   |true =>
    have his:i<s.length:=by omega
    refine⟨((i:Int)+1,(j:Int)+1,s.set i a[j]),⟨i+1,j+1,by simp,by simp,by omega,by omega,by simpa using hl,?_,?_⟩,by simp; omega,fun kn=>by dsimp only; rw[hf,h]; rfl⟩
    ·show List.take (i+1) (s.set i a[j])=_;rw[hta,h,List.take_add_one,fI,List.take_set_of_le (cB i),ht];simp[his]
    ·show List.drop (j+1) (s.set i a[j])=_;rw[List.drop_set_of_lt (by omega)];exact hdd
  ·refine .inl fun kn=>?_
   have hje:j=s.length:=by omega
   try dsimp only
   rw[hje,hE i s _ (by omega) hl,hk i s (by omega),ht,dX (by omega)]
 ·show List.take z a=(a.take (z+1)).filter p;have hz':a[z]?=some a[z]:=cA hz;rw[take_succ hz',eN,gk.2 hp];simp[hc _ hz']
def Xt (p:α→Bool) {a:List α} {F1:Int→(Int→Option ρ)→Option ρ} {F:Int→Int→List α→(Int→Int→List α→Option ρ)→Option ρ} {k0:Int×List α→Option ρ} {K:List α→Option ρ} {kf:Int→Option ρ} {kend:Option ρ}
 (h1:∀(i:Nat) (x:α),i<a.length→a[i]?=some x→∀kn,F1 i kn=if !p x then kf i else kn ((i:Int)+1)) (h1e:∀kn,F1 a.length kn=kend) (hend:kend=K a)
 (hkf:∀z:Nat,z<a.length→kf z=Ê (fun(v:Int×Int×List α) kk=>F v.1 v.2.1 v.2.2 (fun x y w=>kk (x,y,w))) ((z:Int),((z:Int)+1),a))
 (hF:∀(i j:Nat) (s:List α) (x:α),s.length=a.length→i<j→j<s.length→s[j]?=some x→x∈a→∀kn,F i j s kn=if p x then kn ((i:Int)+1) ((j:Int)+1) (s.set i x) else kn i ((j:Int)+1) s)
 (hE:∀(i:Nat) (s:List α) kn,i≤s.length→s.length=a.length→F i s.length s kn=k0 ((i:Int),s)) (hk:∀(i:Nat) (s:List α),i≤s.length→k0 ((i:Int),s)=K (s.take i)):Ê F1 0=K (a.filter p):=by
 rw[jt a (fun x=>!p x) kf kend h1 h1e]
 cases hf:a.findIdx? (fun x=>!p x) with
 |none =>
  dsimp only;rw[hend,List.filter_eq_self.2];intro x hx;have:=List.findIdx?_eq_none_iff.1 hf x hx;simpa using this
 |some z =>
  obtain⟨hz,hcz,hlt⟩:=List.findIdx?_eq_some_iff_getElem.1 hf;dsimp only;rw[hkf z hz];refine aay p hF hE hk hz (fun x hx=>?_) (fun c hc=>?_)
  ·obtain⟨j,hj,rfl⟩:=cO.1 hx;rw[cW] at hj;rw[eP];have:=hlt j (by omega);simpa using this
  ·rw[cA hz] at hc;cases hc;simpa using hcz
end
def nN (m:ő) (w:Way):Bool:=kj (iN (trP m w)) ((Ú (trP m w)).length+1)
def sa (m:ő):List Way:=(ĝ m.2).filter (nN m)
def O6 (m:ő):Way×Bool:=match (ĝ m.2).find? (nN m) with|some w=>(w,true)|none=>([],false)
section
variable {m:ő} {w:Way} {ρ:Type}
def In_tr (h:MOk m) (hw:Ĩ m.2 w):In (trP m w):=⟨(wg h hw).size,h.in_.num⟩
def Mh (h:MOk m) (hw:Ĩ m.2 w):il (trP m w)=some ((((Ú (trP m w)).length:Int)+1,iN (trP m w)),Pw (trP m w),0):=by
 rw[Vw (In_tr h hw),Sh,if_neg (by simp[(ψ _).2 (wg h hw)])]
def vn (h:MOk m) (hw:Ĩ m.2 w):Β m w=some (nN m w):=by
 unfold Β wS;rw[mA h hw,À,Mh h hw,À];have:=Si (wg h hw).sys;simp only[Int.natCast_add,Int.cast_ofNat_Int] at this;rw[this]; rfl
def oR {i:Nat} (hi:(ĝ m.2)[i]?=some w):Ĩ m.2 w:=mz.1 (cI hi)
def pZ (h:MOk m):(ĝ m.2).length≤150:=by rw[Sq]; exact h.prod
def acG (h:MOk m):Ed m=some (sa m):=by
 unfold Ed Qb;have hl:=RO h;have hl2:=pZ h;have hm:((((m.1.1.1,m.1.1.2),m.1.2.1,m.1.2.2.1,m.1.2.2.2.1,m.1.2.2.2.2.1,m.1.2.2.2.2.2),m.2):ő)=m:=rfl;rw[adc h,À,IB (fun v y kn hv=>by unfold Bi; rw[Đ (Û (by simp; omega))]) (by simp; omega),List.nil_append,SI h,À]
 refine Xt (a:=ĝ m.2) (nN m) (K:=fun l=>some l) (k0:=ac2 [] fun l=>some l) (kf:=fun z6=>ifb (ieq z6 (-1:Int)) (some (ĝ m.2)) (ck (z6+(1:Int)) fun n7=>Ê (fun(v15:Int×Int×List Way) kk19=>lP m.1.1.1 m.1.1.2 m.1.2.1 m.1.2.2.1 m.1.2.2.2.1 m.1.2.2.2.2.1 m.1.2.2.2.2.2 m.2 v15.1 v15.2.1 v15.2.2 (fun u16 u17 u18=>kk19 (u16,u17,u18)) (ac2 [] fun l=>some l)) (z6,n7,ĝ m.2)))
  (F:=fun a b c kn=>lP m.1.1.1 m.1.1.2 m.1.2.1 m.1.2.2.1 m.1.2.2.2.1 m.1.2.2.2.2.1 m.1.2.2.2.2.2 m.2 a b c kn (ac2 [] fun l=>some l)) (kend:=some (ĝ m.2)) (fun i x hi hx kn=>?_) (fun kn=>?_) rfl (fun z hz=>?_) (fun i j s x hs hij hj hx hxa kn=>?_) (fun i s kn hi hs=>?_) (fun i s hi=>Xu _ _ hi)
 ·try dsimp only
  unfold ud;rw[Ñ hi,š hi,Ė hx,hm,vn h (oR hx),À,Ë hi (by omega),Č];rfl
 ·try dsimp only
  unfold ud;rw[ß]
 ·rw[Ì (by simp[ieq]),Ë hz (by omega)]
 ·try dsimp only
  unfold lP;rw[Ñ hj,show ñ s=((s.length:Nat):Int) from rfl,š hj,Ė hx,hm,vn h (mz.1 hxa),À];cases nN m x
  ·simp only[eZ,dA,é,cS,if_false];rw[Ë hj (by omega)]
  ·simp only[eZ,dA,oo,if_true];rw[š (by omega),Ė (cA (by omega)),Ë (show i<s.length by omega) (by omega),Ë hj (by omega),cQ]
 ·try dsimp only
  unfold lP;rw[ß]
def rD (h:MOk m):û m=some (O6 m):=by
 unfold û ue;have hl2:=pZ h;have hm:((((m.1.1.1,m.1.1.2),m.1.2.1,m.1.2.2.1,m.1.2.2.2.1,m.1.2.2.2.2.1,m.1.2.2.2.2.2),m.2):ő)=m:=rfl;rw[IP h,À];refine Eq.trans (jZ (ĝ m.2) (fun _ w=>if nN m w then some (w,true) else none) (fun z=>some (z.1,z.2)) (some ([],false)) (fun i x hi hx kn=>?_) (fun kn=>?_)) ?_
 ·try dsimp only
  unfold jH;rw[Ñ hi,È hx,hm,vn h (oR hx),À,Ë hi (by omega),Č]
  cases nN m x<;>rfl
 ·try dsimp only
  unfold jH;rw[ß]
 ·rw[G9,O6]
  have key:∀l:List Way,l.findSome? (fun w=>if nN m w then some (w,true) else none)=(l.find? (nN m)).map fun w=>(w,true):=by
   intro l
   induction l with
   |nil=>rfl
   |cons x l ih =>
    rw[gq,fi]
    cases h:nN m x with
    |true=>rfl
    |false=>exact ih
  rw[key]
  cases(ĝ m.2).find? (nN m)<;>rfl
def nV (m:ő):Bool:=(ĝ m.2).any (nN m)
def vf (m:ő):(O6 m).2=nV m:=by
 unfold O6 nV
 cases h:(ĝ m.2).find? (nN m) with
 |none =>
  symm
  rw[dG]
  exact fun x hx=>by simpa using(dQ.1 h) x hx
 |some w =>
  symm
  rw[dj];exact⟨w,fc h,fF h⟩
def All_ok (hs:In m.1) (hn:m.2.length≤1000):RF m=some (if Ļ m≠0 then([],Ļ m) else(sa m,0)):=by
 unfold RF WF;rw[mw hs hn,À]
 by_cases hc:Ļ m=0
 ·rw[Ì (by simp[ine,hc]),if_neg (by simp[hc]),acG ((ň m).1 hc)]; rfl
 ·rw[Ù (by simp[ine,hc]),if_pos hc]
def Xc (m:ő):Way×Int:=if Ļ m≠0 then([],Ļ m) else if nV m then((O6 m).1,0) else([],5)
def ad4 (hs:In m.1) (hn:m.2.length≤1000):Eh m=some (Xc m):=by
 unfold Eh J2 Xc;rw[mw hs hn,À]
 by_cases hc:Ļ m=0
 ·rw[Ì (by simp[ine,hc]),if_neg (by simp[hc]),rD ((ň m).1 hc),À,vf]
  cases nV m<;>rfl
 ·rw[Ù (by simp[ine,hc]),if_pos hc]
def ag3 (m:ő) (p:Cmp→Bool):ő:=((m.1.1,m.1.2.1,m.1.2.2.1,m.1.2.2.2.1,m.1.2.2.2.2.1.filter p,m.1.2.2.2.2.2),m.2)
def sl (m:ő) (ids:List Int):ő:=ag3 m fun c=>ids.contains c.1
def Wg (hn:m.1.2.2.2.2.1.length≤1000) {ids:List Int} (hi:ids.length≤1000000):yC m ids=some (sl m ids):=by
 unfold yC P4;rw[Đ (Û (by omega))]
 refine Xt (a:=m.1.2.2.2.2.1) (fun c=>ids.contains c.1) (K:=fun l=>some ((m.1.1,m.1.2.1,m.1.2.2.1,m.1.2.2.2.1,l,m.1.2.2.2.2.2),m.2)) (k0:=ac2 zC fun l=>some ((m.1.1,m.1.2.1,m.1.2.2.1,m.1.2.2.2.1,l,m.1.2.2.2.2.2),m.2))
  (kf:=fun z4=>ifb (ieq z4 (-1:Int)) (some m) (ck (z4+(1:Int)) fun n5=>Ê (fun(v13:Int×Int×List Cmp) kk17=>lO ids v13.1 v13.2.1 v13.2.2 (fun u14 u15 u16=>kk17 (u14,u15,u16)) (ac2 zC fun l=>some ((m.1.1,m.1.2.1,m.1.2.2.1,m.1.2.2.2.1,l,m.1.2.2.2.2.2),m.2))) (z4,n5,m.1.2.2.2.2.1)))
  (F:=fun a b c kn=>lO ids a b c kn (ac2 zC fun l=>some ((m.1.1,m.1.2.1,m.1.2.2.1,m.1.2.2.2.1,l,m.1.2.2.2.2.2),m.2))) (kend:=some m) (fun i x hi' hx kn=>?_) (fun kn=>?_) rfl (fun z hz=>?_) (fun i j s x hs hij hj hx hxa kn=>?_) (fun i s kn hi hs=>?_) (fun i s hi=>Xu _ _ hi)
 ·try dsimp only
  unfold t8;rw[Ñ hi',š hi',Ė hx,Œ hi,À,Ë hi' (by omega),Č];rfl
 ·try dsimp only
  unfold t8;rw[ß]
 ·rw[Ì (by simp[ieq]),Ë hz (by omega)]
 ·try dsimp only
  unfold lO;rw[Ñ hj,show ñ s=((s.length:Nat):Int) from rfl,š hj,Ė hx,Œ hi,À];cases ids.contains x.1
  ·simp only[eZ,dA,é,cS,if_false];rw[Ë hj (by omega)]
  ·simp only[eZ,dA,oo,if_true];rw[š (by omega),Ė (cA (by omega)),Ë (show i<s.length by omega) (by omega),Ë hj (by omega),cQ]
 ·try dsimp only
  unfold lO;rw[ß]
end
section
variable {b:Ğ}
def Iu (h:Ν b) (g:õ) {f t u:Int} (h1:f≤t) (h2:t≤u):kH b g f u=kH b g f t+kH b g t u:=by
 obtain⟨n,rfl⟩:∃n:Nat,u=t+n:=⟨(u-t).toNat,by omega⟩;clear h2
 induction n with
 |zero=>simp[UJ]
 |succ n ih =>
  have e:t+((n+1:Nat):Int)=(t+n)+1:=by omega
  rw[e,UI h g (show f≤t+(n:Int) by omega),UI h g (show t≤t+(n:Int) by omega),ih];omega
def BK (h:Ν b) {g:õ} (hg:g∈b.2.1) {f t:Int} (hf:0≤f):0≤kH b g f t:=(uV h hg hf).1
def ω (b:Ğ) (id d:Int):Int:=match jj (Ú b) id d with|some j=>(j:Int)+1|none=>0
def qk (h:Ν b) {i:Nat} {g:õ} (hg:b.2.1[i]?=some g) {k:Nat} {d:Int} (hk:(å b g)[k]?=some d):ω b g.1 d=(off b i:Int)+k+1:=by
 unfold ω;rw[PT h hg hk];simp only;omega
structure tP (b:Ğ) (p:Int→Int) (g:õ):Prop where
 hi:p (ω b g.1 g.2.1)≤p 0+(g.2.2.1+g.2.2.2.1.2)
 lo:p 0+(g.2.2.1+g.2.2.2.1.1)≤p (ω b g.1 g.2.1)
 down:∀d e,d∈å b g→e∈å b g→d≤e→p (ω b g.1 e)≤p (ω b g.1 d)
 loss:∀d e,d∈å b g→e∈å b g→d≤e→p (ω b g.1 d)≤p (ω b g.1 e)+kH b g d e
def D3 (h:Ν b) {i:Nat} {g:õ} (hg:b.2.1[i]?=some g) {p:Int→Int}:(∀l∈Ň b g,p l.2.1≤p l.1+l.2.2)↔tP b p g:=by
 have hgm:=cI hg;obtain⟨tl,htl⟩:=U5 h hgm
 have h0:ω b g.1 g.2.1=(off b i:Int)+1:=by
  have:=qk h hg (k:=0) (d:=g.2.1) (by rw[htl]; rfl);rw[this];omega
 constructor
 ·intro hl;have e1:=hl _ ((ĵ h hg).2 (.inl rfl));have e2:=hl _ ((ĵ h hg).2 (.inr (.inl rfl)));simp only at e1 e2
  have step:∀(k:Nat) (d e:Int),(å b g)[k]?=some d→(å b g)[k+1]?=some e→p (ω b g.1 e)≤p (ω b g.1 d)∧p (ω b g.1 d)≤p (ω b g.1 e)+kH b g d e:=by
   intro k d e hd he;have a1:=hl _ ((ĵ h hg).2 (.inr (.inr ⟨k,d,e,hd,he,.inl rfl⟩)));have a2:=hl _ ((ĵ h hg).2 (.inr (.inr ⟨k,d,e,hd,he,.inr rfl⟩)));simp only at a1 a2;rw[qk h hg hd,qk h hg he]
   have e3:(off b i:Int)+((k+1:Nat):Int)+1=(off b i:Int)+k+2:=by omega
   rw[e3];exact⟨by omega,a2⟩
  have pair:∀(n k:Nat) (d e:Int),(å b g)[k]?=some d→(å b g)[k+n]?=some e→p (ω b g.1 e)≤p (ω b g.1 d)∧p (ω b g.1 d)≤p (ω b g.1 e)+kH b g d e:=by
   intro n
   induction n with
   |zero =>
    intro k d e hd he;rw[fC,hd] at he;cases he;rw[UJ g (dL _)];omega
   |succ n ih =>
    intro k d e hd he;have hlt:=(cE.1 he).1;have hm:(å b g)[k+n]?=some ((å b g)[k+n]'(by omega)):=cA (by omega);obtain⟨a1,a2⟩:=ih k d _ hd hm;obtain⟨a3,a4⟩:=step (k+n) _ e hm he
    have o1:d≤(å b g)[k+n]'(by omega):=by
     obtain⟨hkl,hkd⟩:=cE.1 hd;rcases fV n with rfl|hn
     ·rw[←hkd]; exact Int.le_of_eq (by congr 1)
     ·have:=(dh.1 (vq b g)) k (k+n) hkl (by omega) (by omega);rw[hkd] at this; omega
    have o2:(å b g)[k+n]'(by omega)≤e:=by
     obtain⟨hel,hee⟩:=cE.1 he;have:=(dh.1 (vq b g)) (k+n) (k+(n+1)) (by omega) hel (by omega);rw[hee] at this; omega
    have:=Iu h g o1 o2;omega
  have any:∀d e,d∈å b g→e∈å b g→d≤e→p (ω b g.1 e)≤p (ω b g.1 d)∧p (ω b g.1 d)≤p (ω b g.1 e)+kH b g d e:=by
   intro d e hd he hde;obtain⟨k,hk,rfl⟩:=cO.1 hd;obtain⟨m,hm,rfl⟩:=cO.1 he
   have hkm:k≤m:=by
    rcases cX m k with hlt|hge
    ·have:=(dh.1 (vq b g)) m k hm hk hlt; omega
    ·exact hge
   exact pair (m-k) k _ _ (cA hk) (by rw[show k+(m-k)=m by omega]; exact cA hm)
  exact⟨by rw[h0]; omega,by rw[h0]; omega,fun d e hd he hde=>(any d e hd he hde).1,fun d e hd he hde=>(any d e hd he hde).2⟩
 ·intro hf l hl;rcases(ĵ h hg).1 hl with rfl|rfl|⟨k,d,e,hd,he,rfl|rfl⟩
  ·have:=hf.hi; rw[h0] at this; simp only; omega
  ·have:=hf.lo; rw[h0] at this; simp only; omega
  ·have hde:d≤e:=by
    obtain⟨a1,a2⟩:=cE.1 hd;obtain⟨a3,a4⟩:=cE.1 he;have:=(dh.1 (vq b g)) k (k+1) a1 a3 (by omega);rw[a2,a4] at this; omega
   have:=hf.down d e (cI hd) (cI he) hde;rw[qk h hg hd,qk h hg he] at this
   have e3:(off b i:Int)+((k+1:Nat):Int)+1=(off b i:Int)+k+2:=by omega
   rw[e3] at this;simp only;omega
  ·have hde:d≤e:=by
    obtain⟨a1,a2⟩:=cE.1 hd;obtain⟨a3,a4⟩:=cE.1 he;have:=(dh.1 (vq b g)) k (k+1) a1 a3 (by omega);rw[a2,a4] at this; omega
   have:=hf.loss d e (cI hd) (cI he) hde;rw[qk h hg hd,qk h hg he] at this
   have e3:(off b i:Int)+((k+1:Nat):Int)+1=(off b i:Int)+k+2:=by omega
   rw[e3] at this;simp only;exact this
def abJ (h:Ν b) {p:Int→Int}:Pot (iN b) p↔(∀g∈b.2.1,tP b p g)∧∀c∈b.2.2.2.2.1,p (cx b c)≤p (cy b c)+(wn b c).2∧p (cy b c)+(wn b c).1≤p (cx b c):=by
 constructor
 ·intro hp;refine⟨fun g hg=>?_,fun c hc=>?_⟩
  ·obtain⟨i,hi,rfl⟩:=cO.1 hg;exact(D3 h (cA hi)).1 fun l hl=>hp l.1 l.2.1 l.2.2 (oL.2 (.inl ⟨i,_,cA hi,hl⟩))
  ·have a1:=hp _ _ _ (oL.2 (.inr ⟨c,hc,.inl rfl⟩));have a2:=hp _ _ _ (oL.2 (.inr ⟨c,hc,.inr rfl⟩));omega
 ·rintro⟨hg,hc⟩ u v m hl;rcases oL.1 hl with⟨i,g,hig,hl⟩|⟨c,hcm,hl⟩
  ·exact(D3 h hig).2 (hg g (cI hig)) (u,v,m) hl
  ·obtain⟨a1,a2⟩:=hc c hcm;rcases hl with hl|hl
   ·obtain⟨rfl,rfl,rfl⟩:u=cy b c∧v=cx b c∧m=(wn b c).2:=by simpa using hl
    exact a1
   ·obtain⟨rfl,rfl,rfl⟩:u=cx b c∧v=cy b c∧m = -(wn b c).1:=by simpa using hl
    omega
end
def af0:List Int→Int
 |[]=>0
 |[a]=>a
 |a::b::t=>max a (af0 (b::t))
def TB:∀{l:List Int},l≠[]→(∀a∈l,a≤af0 l)∧af0 l∈l
 |[],h=>absurd rfl h
 |[a],_=>⟨fun x hx=>by rw[cM] at hx; rw[hx]; exact dL _,by simp[af0]⟩
 |a::b::t,_=>by
  obtain⟨h1,h2⟩:=TB (l:=b::t) (by simp);have e:af0 (a::b::t)=max a (af0 (b::t)):=rfl;rw[e];constructor
  ·intro x hx;rcases cH.1 hx with rfl|hx
   ·omega
   ·have:=h1 x hx; omega
  ·rcases Int.le_total a (af0 (b::t)) with h|h
   ·rw[Int.max_eq_right h]; exact cZ _ h2
   ·rw[Int.max_eq_left h]; exact List.mem_cons_self
section
variable {b:Ğ}
def abH (b:Ğ) (f:Int→Int→Int) (z:Int) (v:Int):Int:=if v=0 then z else match (Ú b)[(v-1).toNat]? with|some n=>f n.1 n.2|none=>0
def I8 (f:Int→Int→Int) (z:Int):abH b f z 0=z:=by unfold abH; rw[if_pos rfl]
def SW (h:Ν b) (f:Int→Int→Int) (z:Int) {g:õ} (hg:g∈b.2.1) {d:Int} (hd:d∈å b g):abH b f z (ω b g.1 d)=f g.1 d:=by
 obtain⟨i,hi,rfl⟩:=List.mem_iff_getElem.1 hg;obtain⟨k,hk,rfl⟩:=List.mem_iff_getElem.1 hd;have hgi:=List.getElem?_eq_getElem hi;have hdk:=List.getElem?_eq_getElem hk;rw[qk h hgi hdk];unfold abH
 have e:((off b i:Int)+k+1-1).toNat=off b i+k:=by omega
 rw[if_neg (by omega),e,aeG hgi hdk]
def Vm (b:Ğ) (l:List Int) (d:Int):Int:=match l with|[]=>0|x::_=>ω b x d
def Zp (l:List Int) (d:Int):atP (Ú b) l d=Vm b l d:=by
 unfold atP Vm ω
 cases l<;>rfl
def ac6 (c:Cmp):cx b c=Vm b (ý c.2.2.1 c.2.2.2.1) c.2.1:=Zp _ _
def ac5 (c:Cmp):cy b c=Vm b (ý c.2.2.2.1 c.2.2.1) c.2.1:=Zp _ _
def YN (h:Ν b) {c:Cmp} (hc:c∈b.2.2.2.2.1) {x:Int} (hx:x∈ý c.2.2.1 c.2.2.2.1∨x∈ý c.2.2.2.1 c.2.2.1):∃g∈b.2.1,g.1=x∧c.2.1∈å b g:=by
 have hx':(x∈c.2.2.1∧x∉c.2.2.2.1)∨(x∈c.2.2.2.1∧x∉c.2.2.1):=by
  rcases hx with hx|hx
  ·exact .inl (ng.1 hx)
  ·exact .inr (ng.1 hx)
 have hm:x∈c.2.2.1++c.2.2.2.1:=by rw[cG]; exact hx'.imp (·.1) (·.1)
 obtain⟨⟨g,hg,_⟩,_⟩:=h.pile hc hm;obtain⟨hgm,hid⟩:=gO hg;refine⟨g,hgm,hid,χ.2 (.inr (.inl ⟨c,hc,?_,rfl⟩))⟩;rw[hid];intro he;rw[fU,eX,eX] at he;rcases hx' with⟨a,e⟩|⟨a,e⟩
 ·exact e (he.1 a)
 ·exact e (he.2 a)
def fill (b:Ğ) (p:Int→Int) (g:õ) (d:Int):Int:=af0 ((å b g).map fun e=>if d≤e then p (ω b g.1 e) else p (ω b g.1 e)-kH b g e d)
def LG {p:Int→Int} {g:õ} (d:Int):(∀e∈å b g,(if d≤e then p (ω b g.1 e) else p (ω b g.1 e)-kH b g e d)≤fill b p g d)∧∃e∈å b g,fill b p g d=if d≤e then p (ω b g.1 e) else p (ω b g.1 e)-kH b g e d:=by
 have hne:((å b g).map fun e=>if d≤e then p (ω b g.1 e) else p (ω b g.1 e)-kH b g e d)≠[]:=by
  intro h;have:=List.map_eq_nil_iff.1 h;have h2:=rE (b:=b) g;rw[this] at h2;cases h2
 obtain⟨h1,h2⟩:=TB hne;refine⟨fun e he=>h1 _ (dc.2 ⟨e,he,rfl⟩),?_⟩;obtain⟨e,he,hx⟩:=dc.1 h2;exact⟨e,he,hx.symm⟩
def Y6 (h:Ν b) {p:Int→Int} {g:õ} (hg:g∈b.2.1) (hf:tP b p g) {d:Int} (hd:d∈å b g):fill b p g d=p (ω b g.1 d):=by
 obtain⟨h1,e,he,h2⟩:=LG (b:=b) (p:=p) (g:=g) d;have h3:=h1 d hd;rw[if_pos (dL _)] at h3
 have h4:fill b p g d≤p (ω b g.1 d):=by
  rw[h2]
  split
  ·rename_i hde;exact hf.down d e hd he hde
  ·rename_i hde;have:=hf.loss e d he hd (by omega);omega
 omega
def U3 (h:Ν b) {p:Int→Int} {g:õ} (hg:g∈b.2.1) (hf:tP b p g) {d e:Int} (h0:g.2.1≤d) (hde:d≤e):fill b p g e≤fill b p g d∧fill b p g d≤fill b p g e+kH b g d e:=by
 obtain⟨a1,x,hx,a2⟩:=LG (b:=b) (p:=p) (g:=g) d;obtain⟨b1,y,hy,b2⟩:=LG (b:=b) (p:=p) (g:=g) e;have hm:=(h.gaugeR hg).2.2.2.2.1;have hl:=BK h hg (f:=d) (t:=e) (by omega);have dx:=h.day hg hx;have dy:=h.day hg hy;constructor
 ·have q:=a1 y hy;rw[b2]
  by_cases c1:e≤y
  ·rw[if_pos c1];rw[if_pos (by omega)] at q;exact q
  ·rw[if_neg c1]
   by_cases c2:d≤y
   ·rw[if_pos c2] at q;have:=BK h hg (f:=y) (t:=e) dy.2.1;omega
   ·rw[if_neg c2] at q;have:=Iu h g (f:=y) (t:=d) (u:=e) (by omega) hde;omega
 ·have q:=b1 x hx;rw[a2]
  by_cases c1:d≤x
  ·rw[if_pos c1]
   by_cases c2:e≤x
   ·rw[if_pos c2] at q;omega
   ·rw[if_neg c2] at q;have:=Iu h g (f:=d) (t:=x) (u:=e) c1 (by omega);have:=BK h hg (f:=d) (t:=x) (by omega);omega
  ·rw[if_neg c1];rw[if_neg (by omega)] at q;have:=Iu h g (f:=x) (t:=d) (u:=e) (by omega) hde;omega
end
section
variable {b:Ğ} {c:Cmp}
def aaQ {b':Ğ} (h':Ν b') {l:List Int} {day:Int} (f:Int→Int→Int) (z:Int) (hl:∀x∈l,∃g∈b'.2.1,g.1=x∧day∈å b' g):abH b' f z (Vm b' l day)=match l with|[]=>z|x::_=>f x day:=by
 unfold Vm
 cases l with
 |nil=>exact I8 f z
 |cons x t =>
  obtain⟨g,hg,rfl,hd⟩:=hl x (by simp);exact SW h' f z hg hd
end
section
variable {L:List Lk} {N:Nat}
def Wl.app {u v:Int} {vs:List Int} {d:Int} (h1:Wl L (fun x=>x=u) vs v d) {ws:List Int} {w e:Int} (h2:Wl L (fun x=>x=v) ws w e):∃xs,Wl L (fun x=>x=u) xs w (d+e):=by
 induction h2 with
 |nil h=>subst h; exact⟨vs,by rw[gA]; exact h1⟩
 |step hw hx ih =>
  obtain⟨xs,hi⟩:=ih;have:=Wl.step hi hx;rw[Int.add_assoc] at this;exact⟨_,this⟩
def dst (L:List Lk) (N:Nat) (s t:Int):Int:=gv (ya L N s) t
def acY (h:ja L N) (ht:XO L N) (ho:kj L N=true) {s t:Int} (hs:0≤s∧s<N) (hv:0≤t∧t<N):dst L N s t≤9007199254740992:=by
 have h2:=h.n60;obtain⟨p,hp⟩:=(ki h.links (by omega)).1 ho;obtain⟨vs,d,hw,hd⟩:=ht.from' s hs.1 hs.2;obtain⟨ws,e,hx,he⟩:=ht.to t hv.1 hv.2;obtain⟨xs,hy⟩:=Wl.app hw hx;have:=(BT h.links (by omega) hp hs).low t xs _ (afX.2 hy);unfold dst;omega
def dst_ne (h:ja L N) (ht:XO L N) (ho:kj L N=true) {s t:Int} (hs:0≤s∧s<N) (hv:0≤t∧t<N):dst L N s t≠Ŗ:=by
 have:=acY h ht ho hs hv;unfold Ŗ;omega
def acX (h:ja L N) (ht:XO L N) (ho:kj L N=true) {s t:Int} (hs:0≤s∧s<N) (hv:0≤t∧t<N) {p:Int→Int} (hp:Pot L p):p t-p s≤dst L N s t:=by
 have h2:=h.n60;obtain⟨vs,hw⟩:=(BT h.links (by omega) hp hs).att t hv.1 hv.2 (dst_ne h ht ho hs hv);obtain⟨u,hu,hx⟩:=(afX.1 hw).pot hp;subst hu;exact hx
def acW (h:ja L N) (ht:XO L N) (ho:kj L N=true) {x y:Int} (hx:0≤x∧x<N) (hy:0≤y∧y<N) : -(dst L N x y)≤dst L N y x:=by
 have h2:=h.n60;obtain⟨p,hp⟩:=(ki h.links (by omega)).1 ho;have a1:=acX h ht ho hx hy hp;have a2:=acX h ht ho hy hx hp;omega
def dst_bd (h:ja L N) (ht:XO L N) (ho:kj L N=true) {s t:Int} (hs:0≤s∧s<N) (hv:0≤t∧t<N) : -9007199254740992≤dst L N s t∧dst L N s t≤9007199254740992:=by
 have a1:=acY h ht ho hs hv;have a2:=acY h ht ho hv hs;have a3:=acW h ht ho hv hs;omega
end
def abt (f:Int→Int→Int) (z:Int) (l:List Int) (d:Int):Int:=match l with|[]=>z|x::_=>f x d
def aax (f:Int→Int→Int) (z:Int) (c:Cmp):Int:=abt f z (ý c.2.2.1 c.2.2.2.1) c.2.1-abt f z (ý c.2.2.2.1 c.2.2.1) c.2.1
structure ahu (b:Ğ) (f:Int→Int→Int) (z:Int) (g:õ):Prop where
 hi:f g.1 g.2.1≤z+(g.2.2.1+g.2.2.2.1.2)
 lo:z+(g.2.2.1+g.2.2.2.1.1)≤f g.1 g.2.1
 down:∀d e,g.2.1≤d→d≤e→f g.1 e≤f g.1 d
 loss:∀d e,g.2.1≤d→d≤e→f g.1 d≤f g.1 e+kH b g d e
structure Hist (b:Ğ) (f:Int→Int→Int) (z:Int):Prop where
 gauge:∀g∈b.2.1,ahu b f z g
 cmp:∀c∈b.2.2.2.2.1,(wn b c).1≤aax f z c∧aax f z c≤(wn b c).2
def acQ {b:Ğ} (h:Ν b) {p:Int→Int} (hg:∀g∈b.2.1,tP b p g):∃f:Int→Int→Int,(∀g∈b.2.1,ahu b f (p 0) g)∧∀g∈b.2.1,∀d∈å b g,f g.1 d=p (ω b g.1 d):=by
 let f:Int→Int→Int:=fun id d=>match þ b id with|some g=>fill b p g d|none=>0
 have hfv:∀g∈b.2.1,∀d,f g.1 d=fill b p g d:=fun g hgm d=>by
  show(match þ b g.1 with|some g=>fill b p g d|none=>0)=_;rw[vd h.ids hgm]
 refine⟨f,fun g hgm=>?_,fun g hgm d hd=>by rw[hfv g hgm]; exact Y6 h hgm (hg g hgm) hd⟩;have gf:=hg g hgm
 have e0:f g.1 g.2.1=p (ω b g.1 g.2.1):=by rw[hfv g hgm]; exact Y6 h hgm gf (rE g)
 refine⟨by rw[e0]; exact gf.hi,by rw[e0]; exact gf.lo,fun d e h0 hde=>?_,fun d e h0 hde=>?_⟩
 ·rw[hfv g hgm,hfv g hgm];exact(U3 h hgm gf h0 hde).1
 ·rw[hfv g hgm,hfv g hgm];exact(U3 h hgm gf h0 hde).2
def SL {b:Ğ} {f:Int→Int→Int} {p:Int→Int} (hm:∀g∈b.2.1,∀d∈å b g,f g.1 d=p (ω b g.1 d)) {l:List Int} {day:Int} (hl:∀x∈l,∃g∈b.2.1,g.1=x∧day∈å b g):p (Vm b l day)=abt f (p 0) l day:=by
 cases l with
 |nil=>rfl
 |cons x t =>
  obtain⟨g,q1,rfl,q3⟩:=hl x (by simp);exact(hm g q1 day q3).symm
def ac1 {b:Ğ} {f:Int→Int→Int} {p:Int→Int} (hm:∀g∈b.2.1,∀d∈å b g,f g.1 d=p (ω b g.1 d)) {c:Cmp}
 (hl:∀x,x∈ý c.2.2.1 c.2.2.2.1∨x∈ý c.2.2.2.1 c.2.2.1→∃g∈b.2.1,g.1=x∧c.2.1∈å b g):p (cx b c)-p (cy b c)=aax f (p 0) c:=by
 unfold aax;rw[ac6,ac5,SL hm (fun x hx=>hl x (.inl hx)),SL hm (fun x hx=>hl x (.inr hx))]
def Oe {b:Ğ} (h:Ν b) (f:Int→Int→Int) (z:Int) {l:List Int} {day:Int} (hl:∀x∈l,∃g∈b.2.1,g.1=x∧day∈å b g):abH b f z (Vm b l day)=abt f z l day:=by
 rw[aaQ h f z hl];unfold abt
 cases l<;>rfl
def abG {b:Ğ} (h:Ν b) {f:Int→Int→Int} {z:Int} {c:Cmp} (hl:∀x,x∈ý c.2.2.1 c.2.2.2.1∨x∈ý c.2.2.2.1 c.2.2.1→∃g∈b.2.1,g.1=x∧c.2.1∈å b g):abH b f z (cx b c)-abH b f z (cy b c)=aax f z c:=by
 unfold aax;rw[ac6,ac5,Oe h f z (fun x hx=>hl x (.inl hx)),Oe h f z (fun x hx=>hl x (.inr hx))]
def ZV {b:Ğ} (h:Ν b) {f:Int→Int→Int} {z:Int} {g:õ} (hg:g∈b.2.1) (hh:ahu b f z g):tP b (abH b f z) g:=by
 have q:∀d∈å b g,abH b f z (ω b g.1 d)=f g.1 d:=fun d hd=>SW h f z hg hd;have e0:=q g.2.1 (rE g);refine⟨?_,?_,fun d e hd he hde=>?_,fun d e hd he hde=>?_⟩
 ·rw[e0,I8]; exact hh.hi
 ·rw[e0,I8]; exact hh.lo
 ·rw[q d hd,q e he]; exact hh.down d e (h.day hg hd).1 hde
 ·rw[q d hd,q e he]; exact hh.loss d e (h.day hg hd).1 hde
section
variable {b:Ğ} {c:Cmp}
def aeA (h:Ν b) {p:Int→Int} (hp:Pot (iN b) p):∃f,Hist b f (p 0)∧∀g∈b.2.1,∀d∈å b g,f g.1 d=p (ω b g.1 d):=by
 obtain⟨hg,hc⟩:=(abJ h).1 hp;obtain⟨f,hf,hm⟩:=acQ h hg;refine⟨f,⟨hf,fun c hcm=>?_⟩,hm⟩;have:=ac1 hm (c:=c) (fun x hx=>YN h hcm hx);have:=hc c hcm;omega
def ae0 (h:Ν b) {f:Int→Int→Int} {z:Int} (hh:Hist b f z):Pot (iN b) (abH b f z):=by
 refine(abJ h).2 ⟨fun g hg=>ZV h hg (hh.gauge g hg),fun c hc=>?_⟩;have:=abG (f:=f) (z:=z) h (c:=c) (fun x hx=>YN h hc hx);have:=hh.cmp c hc;omega
def Tt (h:Ν b):kj (iN b) ((Ú b).length+1)=true↔∃f z,Hist b f z:=by
 have:=h.sys.n60;rw[ki h.sys.links (by omega)];constructor
 ·rintro⟨p,hp⟩;obtain⟨f,hf,_⟩:=aeA h hp;exact⟨f,_,hf⟩
 ·rintro⟨f,z,hh⟩;exact⟨_,ae0 h hh⟩
end
def ae7 {m:ő} (h:Ν m.1) (p:Cmp→Bool):(ag3 m p).1=less m.1 ((m.1.2.2.2.2.1.filter fun c=>!p c).map fun c=>c.1):=by
 unfold ag3 less;dsimp only;congr 5;refine List.filter_congr fun c hc=>?_;rw[Bool.eq_iff_iff,Bool.not_eq_true',Bool.eq_false_iff,ne_eq,List.contains_iff_mem,List.mem_map];constructor
 ·rintro hp ⟨c',hc',e⟩;obtain⟨h1,h2⟩:=dS.1 hc'
  have:c'=c:=by
   obtain⟨i,hi,rfl⟩:=cO.1 h1;obtain⟨j,hj,rfl⟩:=cO.1 hc;have hd:=dh.1 h.distinct;rcases Nat.lt_trichotomy i j with hij|hij|hij
   ·exact absurd e (hd i j hi hj hij)
   ·subst hij; rfl
   ·exact absurd e.symm (hd j i hj hi hij)
  rw[this,hp] at h2;cases h2
 ·intro hn
  cases hp:p c with
  |true=>rfl
  |false=>exact absurd ⟨c,dS.2 ⟨hc,by simp[hp]⟩,rfl⟩ hn
def MOk.few {m:ő} (h:MOk m) (p:Cmp→Bool):MOk (ag3 m p):=by
 refine⟨?_,h.n4,h.mixE,h.prod⟩;rw[ae7 h.good];exact h.good.less _
section
variable {m:ő} {ρ:Type}
def NT (h:MOk m) (ids:List Int):û (sl m ids)=some (O6 (sl m ids)):=rD (h.few _)
def kI (b:Ğ) (id d:Int):Int:=if !LQ d then 1 else if (þ b id).isNone then 5 else 0
def Ix (hn:m.1.2.1.length≤1000) (id d:Int):pG m id d=some (kI m.1 id d):=by
 unfold pG JC kI
 by_cases h:LQ d=true
 ·have h':=h;simp only[LQ,inP,cD,decide_eq_true_eq] at h';rw[h,Ì (by simp[ilt]; omega),Ì (by simp[igt]; omega),if_neg (by simp)];refine eh (Š m.1.2.1 (fun g=>g.1==id) (fun z=>ifb (!(ige z (0:Int))) (some 5) (some 0)) (some 0) (some 5) (fun j=>Ì (by simp[ige]) _ _) (fun i a hi ha kn=>?_) (fun kn=>?_)) ?_
  ·try dsimp only
   unfold qA;rw[Ñ hi,È ha,Ë hi (by omega),Č]
  ·try dsimp only
   unfold qA;rw[ß]
  ·unfold þ
   cases hf:m.1.2.1.find? (fun g=>g.1==id) with
   |none =>
    rw[if_neg]
    ·rfl
    rw[dj];rintro⟨g,hg,e⟩;exact absurd e (by simpa using(dQ.1 hf) g hg)
   |some g =>
    rw[if_pos]
    ·rfl
    have hp:=fF hf;exact dj.2 ⟨g,fc hf,hp⟩
 ·have h':=h;simp only[LQ,inP,cD,decide_eq_true_eq,not_and,Int.not_le] at h';rw[if_pos (by simp[h])];rw[Č,Č];simp only[ilt,igt,decide_eq_true_eq]
  split
  ·rfl
  ·rw[if_pos (by have:=h' (by omega); omega)]
def Ma (label:Int) (c:Cmp):Bool:=(ý c.2.2.1 c.2.2.2.1).contains label||(ý c.2.2.2.1 c.2.2.1).contains label
def Gr (m:ő) (label:Int):Bool×Int:=if Ļ m≠0 then(false,Ļ m) else if kI m.1 label 0≠0 then(false,kI m.1 label 0) else(!nV (ag3 m (Ma label)),0)
def Vu (hs:In m.1) (hn:m.2.length≤1000) (label:Int):ou m label=some (Gr m label):=by
 unfold ou ug Gr;rw[mw hs hn,À]
 by_cases hc:Ļ m=0
 ·have h:=(ň m).1 hc;have hC:=h.good.nC;rw[Ì (by simp[ine,hc]),if_neg (by simp[hc]),Ix hs.size.gauges,À]
  by_cases hk:kI m.1 label 0=0
  ·rw[Ì (by simp[ine,hk]),if_neg (by simp[hk]),Đ (Û (by omega))]
   have hcan:∀c∈m.1.2.2.2.2.1,oO c.2.2.1 c.2.2.2.1=some (ý c.2.2.1 c.2.2.2.1,ý c.2.2.2.1 c.2.2.1,0)∧(ý c.2.2.1 c.2.2.2.1).length≤1000000∧(ý c.2.2.2.1 c.2.2.1).length≤1000000:=fun c hc=>by
    obtain⟨p1,p2⟩:=h.good.size.piles c hc;have hnum:=(jn c).1 (h.good.nums hc);have l1:=DS c.2.2.1 c.2.2.2.1;have l2:=DS c.2.2.2.1 c.2.2.1;refine⟨?_,by omega,by omega⟩;rw[ad6 (by omega) (by omega),XS,hnum.2.2.2.2.2.1,hnum.2.2.2.2.2.2]; rfl
   have hK:∀l,l=m.1.2.2.2.2.1.filter (Ma label)→Ã (û ((m.1.1,m.1.2.1,m.1.2.2.1,m.1.2.2.2.1,l,m.1.2.2.2.2.2),m.2)) (fun r24=>some ((!r24.2),(0:Int)))=some (!nV (ag3 m (Ma label)),0):=fun l hl=>by
    subst hl;have:=rD (h.few (Ma label));unfold ag3 at this ⊢;rw[this,À,vf]
   refine eh (Xt (a:=m.1.2.2.2.2.1) (Ma label) (K:=fun l=>Ã (û ((m.1.1,m.1.2.1,m.1.2.2.1,m.1.2.2.2.1,l,m.1.2.2.2.2.2),m.2)) fun r24=>some ((!r24.2),(0:Int))) (k0:=ac2 zC fun l=>Ã (û ((m.1.1,m.1.2.1,m.1.2.2.1,m.1.2.2.2.1,l,m.1.2.2.2.2.2),m.2)) fun r24=>some ((!r24.2),(0:Int)))
    (kf:=fun z9=>ifb (ieq z9 (-1:Int)) (Ã (û m) fun r10=>some ((!r10.2),(0:Int))) (ck (z9+(1:Int)) fun n11=>Ê (fun(v25:Int×Int×List Cmp) kk29=>Ÿ label v25.1 v25.2.1 v25.2.2 (fun u26 u27 u28=>kk29 (u26,u27,u28)) (ac2 zC fun l=>Ã (û ((m.1.1,m.1.2.1,m.1.2.2.1,m.1.2.2.2.1,l,m.1.2.2.2.2.2),m.2)) fun r24=>some ((!r24.2),(0:Int)))) (z9,n11,m.1.2.2.2.2.1)))
    (F:=fun a b c kn=>Ÿ label a b c kn (ac2 zC fun l=>Ã (û ((m.1.1,m.1.2.1,m.1.2.2.1,m.1.2.2.2.1,l,m.1.2.2.2.2.2),m.2)) fun r24=>some ((!r24.2),(0:Int)))) (kend:=Ã (û m) fun r10=>some ((!r10.2),(0:Int))) (fun i x hi hx kn=>?_) (fun kn=>?_) rfl (fun z hz=>?_) (fun i j s x hs hij hj hx hxa kn=>?_) (fun i s kn hi hs=>?_) (fun i s hi=>Xu _ _ hi)) (hK _ rfl)
   ·try dsimp only
    unfold jI;obtain⟨c1,c2,c3⟩:=hcan x (List.mem_of_getElem? hx);rw[Ñ hi,š hi,Ė hx,c1,À,Œ c2,À,Œ c3,À];unfold Ma
    cases(ý x.2.2.1 x.2.2.2.1).contains label<;>cases(ý x.2.2.2.1 x.2.2.1).contains label<;>simp only[oo,é,dA,eZ,Bool.or_true,Bool.or_false,if_true,cS,if_false]<;>first|rfl|rw[Ë hi (by omega)]
   ·try dsimp only
    unfold jI;rw[ß]
   ·rw[Ì (by simp[ieq]),Ë hz (by omega)]
   ·try dsimp only
    unfold Ÿ;obtain⟨c1,c2,c3⟩:=hcan x hxa;have hx2:s[i]?=some s[i]:=List.getElem?_eq_getElem (by omega);rw[Ñ hj,show ñ s=((s.length:Nat):Int) from rfl,š hj,Ė hx,c1,À,Œ c2,À,Œ c3,À];unfold Ma
    cases(ý x.2.2.1 x.2.2.2.1).contains label<;>cases(ý x.2.2.2.1 x.2.2.1).contains label<;>simp only[oo,é,dA,eZ,Bool.or_true,Bool.or_false,if_true,cS,if_false]<;>first|rw[Ë hj (by omega)]|rw[š (by omega),Ė hx2,Ë (show i<s.length by omega) (by omega),Ë hj (by omega),cQ]
   ·try dsimp only
    unfold Ÿ;rw[ß]
  ·rw[Ù (by simp[ine,hk]),if_pos hk]
 ·rw[Ù (by simp[ine,hc]),if_pos hc]
def Xl (m:ő):List Int:=m.1.2.2.2.2.1.map fun c=>c.1
def ada (m:ő):Nat→List Int→List Int
 |0,l=>l
 |i+1,l=>ada m i (if nV (sl m (l.take i++l.drop (i+1))) then l else l.take i++l.drop (i+1))
def ahw (m:ő):List Int×Int:=if Ļ m≠0 then([],Ļ m) else if nV m then([],5) else(ada m (Xl m).length (Xl m),0)
def ahv (hs:In m.1) (hn:m.2.length≤1000):IC m=some (ahw m):=by
 unfold IC Qs ahw;rw[mw hs hn,À]
 by_cases hc:Ļ m=0
 ·have h:=(ň m).1 hc;have hC:=h.good.nC;have hm:((((m.1.1.1,m.1.1.2),m.1.2.1,m.1.2.2.1,m.1.2.2.2.1,m.1.2.2.2.2.1,m.1.2.2.2.2.2),m.2):ő)=m:=rfl;rw[Ì (by simp[ine,hc]),if_neg (by simp[hc]),rD h,À,vf]
  cases nV m with
  |true=>rfl
  |false =>
   simp only[é,cS,if_false]
   have hl:(Xl m).length=m.1.2.2.2.2.1.length:=by unfold Xl; simp
   refine eh (yv m.1.2.2.2.2.1 (fun c=>c.1) (fun z5=>ck ((Ø z5)-(1:Int)) fun n6=>Ê (fun(v14:List Int×Int) kk17=>pd m.1.1.1 m.1.1.2 m.1.2.1 m.1.2.2.1 m.1.2.2.2.1 m.1.2.2.2.2.1 m.1.2.2.2.2.2 m.2 v14.1 v14.2 (fun u15 u16=>kk17 (u15,u16)) (fun z13=>some (z13,(0:Int)))) (z5,n6)) (fun i a hi ha v kn hv=>?_) (fun v kn=>?_)) ?_
   ·try dsimp only
    unfold uj;rw[Ñ hi,È ha,Đ (Û (by simp; omega)),Ë hi (by omega)]
   ·try dsimp only
    unfold uj;rw[ß]
   ·show(ck ((Ø (Xl m))-(1:Int)) fun n6=>Ê _ (Xl m,n6))=_;rw[Ò,Ó (by omega) (by omega)];refine Ę (fun x:List Int×Int=>∃i:Nat,x.2=(i:Int)-1∧i≤x.1.length∧x.1.length≤40∧ada m i x.1=ada m (Xl m).length (Xl m)) (fun x=>(x.2+1).toNat) ?_ ⟨_,rfl,Nat.le_refl _,by dsimp only; omega,rfl⟩;rintro⟨l,x2⟩ ⟨i,h1,hil,hl40,hco⟩;simp only at h1 hil hl40 hco;subst h1
    cases i with
    |zero =>
     refine .inl fun kn=>?_
     try dsimp only
     unfold pd;rw[Ì (by simp[ige]),←hco]; rfl
    |succ i =>
     have e0:((i+1:Nat):Int)-1=i:=by omega
     have hlen:(l.take i++l.drop (i+1)).length=l.length-1:=by simp; omega
     rw[ada] at hco;refine .inr ⟨(if nV (sl m (l.take i++l.drop (i+1))) then l else l.take i++l.drop (i+1),(i:Int)-1),⟨i,rfl,?_,?_,hco⟩,by simp only[e0]; omega,fun kn=>?_⟩
     ·dsimp only; split<;>omega
     ·dsimp only; split<;>omega
     ·try dsimp only
      unfold pd;rw[e0,Ù (by simp[ige]),Đ (by simp[ile,ñ]; omega),Ó (by omega) (by omega),Đ (by simp[ile,ñ]; omega),Int.toNat_natCast,show Int.toNat ((i:Int)+1)=i+1 by omega,Ml (by simp; omega) (by simp; omega),À,hm,Wg (by omega) (by omega),À,NT h,À,vf,Č,Ó (by omega) (by omega),Ó (by omega) (by omega)]
      cases nV (sl m (l.take i++l.drop (i+1)))<;>rfl
 ·rw[Ù (by simp[ine,hc]),if_pos hc]
end
def ĉ:List Int→Nat→List Int
 |[],_=>[]
 |x::l,s=>if s % 2=1 then x::ĉ l (s / 2) else ĉ l (s / 2)
def LW:∀{l:List Int} {s i:Nat} {x:Int},l[i]?=some x→ĉ (l.take (i+1)) s=ĉ (l.take i) s++if s / 2 ^ i % 2=1 then[x] else[]
 |[],_,_,_,h=>by simp at h
 |y::l,s,0,x,h=>by
  simp at h; subst h;simp[ĉ]
 |y::l,s,i+1,x,h=>by
  simp only[fq] at h;have:=LW (s:=s / 2) h;simp only[gn,ĉ,this,Nat.pow_succ',←Nat.div_div_eq_div_mul]
  split<;>rfl
def oQ:∀(l:List Int) (s:Nat),(ĉ l s).length≤l.length
 |[],_=>cB _
 |x::l,s=>by
  have:=oQ l (s / 2);unfold ĉ
  split<;>simp only[cP]<;>omega
def bit_i {s i:Nat} (hs:s<9223372036854775808) (hi:i≤60):ieq (andI .i64 (gP .i64 (s:Int) (i:Int)) (1:Int)) (1:Int)=decide (s / 2 ^ i % 2=1):=by
 have h1:gP .i64 (s:Int) (i:Int)=((s / 2 ^ i:Nat):Int):=by
  unfold gP;have:IntKind.i64.bits=64:=rfl;rw[this,Int.toNat_natCast,Nat.min_eq_left (by omega),Int.fdiv_eq_ediv_of_nonneg _ (Int.le_of_lt (Int.pow_pos (by decide)))];push_cast; rfl
 rw[h1];unfold andI aeb
 have hb:(BitVec.ofInt 64 ((s / 2 ^ i:Nat):Int) &&& BitVec.ofInt 64 1).toNat=s / 2 ^ i % 2:=by
  rw[BitVec.toNat_and,gd,show BitVec.ofInt 64 1=1#64 from rfl,BitVec.toNat_ofNat];rw[show(1#64).toNat=1 from rfl,Nat.and_one_is_mod,Nat.mod_mod_of_dvd _ (by decide)]
 show ieq (IntKind.i64.wrap ((BitVec.ofInt 64 ((s / 2 ^ i:Nat):Int) &&& BitVec.ofInt 64 1).toNat:Int)) 1=_;have hq:s / 2 ^ i % 2<2:=Nat.mod_lt _ (by decide);rw[hb];generalize s / 2 ^ i % 2=q at hq;rw[aa7 (by omega)];unfold ieq;rw[Bool.eq_iff_iff,beq_iff_eq,decide_eq_true_eq];omega
def agt (s x:Nat):Bool:=s &&& x==s
def sub_i {s x:Nat} (hs:s<9223372036854775808) (hx:x<9223372036854775808):ieq (Gq .i64 (s:Int) (x:Int)) (0:Int)=agt s x:=by
 unfold Gq aeb;show ieq (IntKind.i64.wrap ((BitVec.ofInt 64 (s:Int) &&& ~~~ BitVec.ofInt 64 (x:Int)).toNat:Int)) 0=_
 have h1:(BitVec.ofInt 64 (s:Int) &&& ~~~ BitVec.ofInt 64 (x:Int)).toNat<9223372036854775808:=by
  rw[BitVec.toNat_and];refine Nat.lt_of_le_of_lt Nat.and_le_left ?_;rw[gd,BitVec.toNat_ofNat,Nat.mod_eq_of_lt (by omega)]; exact hs
 rw[aa7 h1];unfold ieq agt;rw[Bool.eq_iff_iff,beq_iff_eq,beq_iff_eq]
 have h2:(((BitVec.ofInt 64 (s:Int) &&& ~~~ BitVec.ofInt 64 (x:Int)).toNat:Nat):Int)=0↔∀i,i<64→s.testBit i=true→x.testBit i=true:=by
  rw[Int.natCast_eq_zero,←BitVec.toNat_zero (w:=64),BitVec.toNat_inj];constructor
  ·intro h i hi hsi;have:=congrArg (fun b:BitVec 64=>b.getLsbD i) h;simp only[BitVec.getLsbD_and,BitVec.getLsbD_not,gd,BitVec.getLsbD_ofNat,BitVec.getLsbD_zero,hi,decide_true,d9,hsi] at this;simpa using this
  ·intro h;apply BitVec.eq_of_getLsbD_eq;intro i hi;simp only[BitVec.getLsbD_and,BitVec.getLsbD_not,gd,BitVec.getLsbD_ofNat,BitVec.getLsbD_zero,hi,decide_true,d9]
   cases hsi:s.testBit i with
   |false=>simp
   |true=>rw[h i hi hsi]; simp
 rw[h2];constructor
 ·intro h;refine Nat.eq_of_testBit_eq fun i=>?_;rw[Nat.testBit_and]
  cases hsi:s.testBit i with
  |false=>rfl
  |true =>
   rcases cX i 64 with hi|hi
   ·rw[h i hi hsi]; rfl
   ·have:s<2 ^ i:=cV hs (cT (by decide) (Nat.pow_le_pow_right (by decide) hi));rw[Nat.testBit_lt_two_pow this] at hsi; cases hsi
 ·intro h i _ hsi;rw[←h,Nat.testBit_and,cD] at hsi;exact hsi.2
def aaY:List Int→List Int→Int
 |[],[]=>0
 |[],_=>-1
 |_,[]=>1
 |x::l,y::m=>if x<y then -1 else if y<x then 1 else aaY l m
def Hg (m:ő) (ids:List Int) (st:List Int×Nat×List Nat) (s:Nat):List Int×Nat×List Nat :=
 if st.1.length<(ĉ ids s).length∨((ĉ ids s).length=st.1.length∧0≤aaY (ĉ ids s) st.1) then st else
 if st.2.2.any (agt s) then st else if nV (sl m (ĉ ids s)) then(st.1,st.2.1,st.2.2++[s]) else(ĉ ids s,s,st.2.2)
def Hj (m:ő) (ids:List Int) (n:Nat):List Int×Nat×List Nat:=(List.range n).foldl (Hg m ids) (ids,2 ^ ids.length-1,[])
def adZ (m:ő) (ids:List Int):List Int×Int :=
 if Ļ m≠0 then([],Ļ m) else if 8<ids.length then([],2) else if !ids.all (fun i=>(Xl m).contains i) then([],5) else if ¬ids.Pairwise (·<·) then([],6) else
 if nV (sl m (ĉ ids (2 ^ ids.length-1))) then([],5) else(ĉ ids (Hj m ids (2 ^ ids.length-1)).2.1,0)
section
variable {m:ő} {ρ:Type}
def Es {l:List Int} (hl:l.length≤60) {s:Nat} (hs:s<9223372036854775808):ij l (s:Int)=some (ĉ l s):=by
 unfold ij Fm;refine ģ l (fun i=>ĉ (l.take i) s) _ rfl (fun i x hi hx kn=>?_) (fun kn=>?_)
 ·try dsimp only
  unfold oh;have hcl:=oQ (l.take i) s
  have:(l.take i).length=i:=by rw[cW]; omega
  rw[Ñ hi,È hx,Đ (by simp[ile]),bit_i hs (by omega),Č,LW hx]
  by_cases h:s / 2 ^ i % 2=1
  ·rw[if_pos (by simpa using h),if_pos h,Đ (Û (by simp; omega)),Ë hi (by omega)]
  ·rw[if_neg (by simpa using h),if_neg h,Ë hi (by omega),cY]
 ·try dsimp only
  unfold oh;rw[ß,List.take_length]
def aet (hn:m.1.2.2.2.2.1.length≤1000) {ids:List Int} (hi:ids.length≤1000) (K:Int→Option ρ) (Z:Option ρ):Ê (fun(v:Int) kk=>ε ids (Ø ids) m.1.2.2.2.2.1 v (fun u=>kk u) K (fun _=>Z)) 0=if ids.all (fun i=>(Xl m).contains i) then Z else K 5:=by
 have:=Š ids (fun i=>!(Xl m).contains i) (fun _=>K 5) (K 5) Z (f:=fun v kk=>ε ids (Ø ids) m.1.2.2.2.2.1 v (fun u=>kk u) K (fun _=>Z)) (fun _=>rfl) (fun i x hi' hx kn=>?_) (fun kn=>?_)
 ·rw[this,List.all_eq_not_any_not]
  cases ids.any (fun i=>!(Xl m).contains i)<;>rfl
 ·try dsimp only
  unfold ε;rw[Ñ hi',È hx];refine Eq.trans (Š m.1.2.2.2.2.1 (fun c=>c.1==x) (fun z5=>ifb (!(ige z5 (0:Int))) (K (5:Int)) (ck ((i:Int)+(1:Int)) fun n6=>kn n6)) (kn ((i:Int)+1)) (K 5) (fun j=>by rw[Ì (by simp[ige]),Ë hi' (by omega)]) (fun j c hj hc kn'=>?_) (fun kn'=>?_)) ?_
  ·try dsimp only
   unfold ku;rw[Ñ hj,È hc,Ë hj (by omega),Č]
  ·try dsimp only
   unfold ku;rw[ß]
  ·have:(Xl m).contains x=m.1.2.2.2.2.1.any fun c=>c.1==x:=by
    unfold Xl;rw[Bool.eq_iff_iff,List.contains_iff_mem,List.mem_map,List.any_eq_true];simp
   rw[this]
   cases m.1.2.2.2.2.1.any (fun c=>c.1==x)<;>rfl
 ·try dsimp only
  unfold ε;rw[ß]
def aes {l:List Int} (hl:l.length≤1000) (k0:Int→Option ρ) (k1:Unit→Option ρ):Ê (fun(v:Int) kk=>iG l v (fun u=>kk u) k0 k1) 1=if l.Pairwise (·<·) then k1 () else k0 6:=by
 refine YH (fun i a c ha hc kn=>?_) (fun n hn kn=>?_)
 ·have hi:=(List.getElem?_eq_some_iff.1 hc).1;unfold iG
  have e:((i:Int)+1)=((i+1:Nat):Int):=by omega
  rw[e,Ñ hi,È hc,Ó (by omega) (by omega),←e,Int.add_sub_cancel,È ha,Č,Ó (by omega) (by omega)];simp
 ·unfold iG;rw[Ì (by simp[ilt,Ò]; omega)]
def Em (h:MOk m) (ids:List Int) {w:Way} (hw:Ĩ m.2 w):Β (sl m ids) w=some (nN (sl m ids) w):=vn (h.few _) hw
def aer (h:MOk m) {ids:List Int} (hi:ids.length≤60) {s:Nat} (hs:s<9223372036854775808) (X Z:Option ρ):Ê (fun(v:Int) kk=>iF (ĝ m.2) (Ø (ĝ m.2)) m.1.1.1 m.1.1.2 m.1.2.1 m.1.2.2.1 m.1.2.2.2.1 m.1.2.2.2.2.1 m.1.2.2.2.2.2 m.2 ids (s:Int) v (fun u=>kk u) (fun z=>ifb z.2 X Z) (fun _=>Z)) 0=if nV (sl m (ĉ ids s)) then X else Z:=by
 have hm:((((m.1.1.1,m.1.1.2),m.1.2.1,m.1.2.2.1,m.1.2.2.2.1,m.1.2.2.2.2.1,m.1.2.2.2.2.2),m.2):ő)=m:=rfl;have hl2:=pZ h;have hcl:=oQ ids s;refine Š (ĝ m.2) (nN (sl m (ĉ ids s))) (fun _=>X) X Z (fun _=>rfl) (fun i x hi' hx kn=>?_) (fun kn=>?_)
 ·try dsimp only
  unfold iF;rw[Ñ hi',È hx,Es hi hs,À,hm,Wg h.good.size.compares (by omega),À,Em h _ (oR hx),À,Ë hi' (by omega),Č,Bool.not_not];rfl
 ·try dsimp only
  unfold iF;rw[ß]
def aeo (h:MOk m) {ids:List Int} (hi:ids.length≤60) {s:Nat} (hs:s<9223372036854775808) {op:List Int} (ho:op.length≤1000) (k0 k1:List Int→Option ρ):Ê (fun(v:Int×List Int) kk=>ō (s:Int) (ĝ m.2) (Ø (ĝ m.2)) ids m.1.1.1 m.1.1.2 m.1.2.1 m.1.2.2.1 m.1.2.2.2.1 m.1.2.2.2.2.1 m.1.2.2.2.2.2 m.2 v.1 v.2 (fun a b=>kk (a,b)) k0 k1) ((0:Int),op)=if nV (sl m (ĉ ids s)) then k0 (op++[(s:Int)]) else k1 op:=by
 have hm:((((m.1.1.1,m.1.1.2),m.1.2.1,m.1.2.2.1,m.1.2.2.2.1,m.1.2.2.2.2.1,m.1.2.2.2.2.2),m.2):ő)=m:=rfl;have hl2:=pZ h;have hcl:=oQ ids s;refine K9 (ĝ m.2) (fun _=>op) _ (fun i=>∀w∈(ĝ m.2).take i,nN (sl m (ĉ ids s)) w=false) rfl (fun w hw=>by simp at hw) (fun i x hi' hx hp kn=>?_) (fun hp kn=>?_)
 ·try dsimp only
  unfold ō;rw[Ñ hi',È hx,Es hi hs,À,hm,Wg h.good.size.compares (by omega),À,Em h _ (oR hx),À,Ë hi' (by omega),Đ (Û (by simp; omega)),Č,Bool.not_not]
  cases hx2:nN (sl m (ĉ ids s)) x with
  |true =>
   refine .inl ?_;have:nV (sl m (ĉ ids s))=true:=dj.2 ⟨x,cI hx,hx2⟩;rw[this]; rfl
  |false =>
   refine .inr ⟨fun w hw=>?_,rfl⟩;rw[take_succ hx] at hw;rcases cG.1 hw with hw|hw
   ·exact hp w hw
   ·rw[cM.1 hw]; exact hx2
 ·rw[fA] at hp
  try dsimp only
  unfold ō
  have:nV (sl m (ĉ ids s))=false:=dG.2 fun w hw=>by rw[show nN (sl m (ĉ ids s)) w=false from hp w hw]; simp
  rw[ß,this]; rfl
def aep {s:Nat} (hs:s<9223372036854775808) {op:List Nat} (ho:op.length≤1000) (hop:∀x∈op,x<9223372036854775808) (X Z:Option ρ):Ê (fun(v:Int) kk=>Ŏ (s:Int) (Ø (op.map fun(x:Nat)=>(x:Int))) (op.map fun(x:Nat)=>(x:Int)) v (fun u=>kk u) (fun _=>X) (fun _=>Z)) 0=if op.any (agt s) then X else Z:=by
 refine Š op (agt s) (fun _=>X) X Z (fun _=>rfl) (fun i x hi hx kn=>?_) (fun kn=>?_)
 ·try dsimp only
  unfold Ŏ
  have hx':(op.map fun(x:Nat)=>(x:Int))[i]?=some (x:Int):=by rw[eA,hx]; rfl
  have hi':i<(op.map fun(x:Nat)=>(x:Int)).length:=by simpa using hi
  rw[Ñ hi',š hi',Ė hx',sub_i hs (hop x (cI hx)),Ë hi (by omega),Č]
 ·try dsimp only
  unfold Ŏ;rw[Ò,Ì (by simp[ilt])]
def agT {l m:List Int} (h:l.length=m.length) (hp:∀(i:Nat) (x y:Int),l[i]?=some x→m[i]?=some y→x=y):aaY l m=0:=by
 induction l generalizing m with
 |nil=>cases m with|nil=>rfl|cons _ _=>cases h
 |cons x l ih =>
  cases m with
  |nil=>cases h
  |cons y m =>
   have e:=hp 0 x y rfl rfl;subst e;rw[aaY,if_neg (by omega),if_neg (by omega)];exact ih (by simpa using h) fun i a b ha hb=>hp (i+1) a b ha hb
def lex_at {l m:List Int} {i:Nat} {x y:Int} (hx:l[i]?=some x) (hy:m[i]?=some y) (hp:∀(j:Nat) (a b:Int),j<i→l[j]?=some a→m[j]?=some b→a=b) (hne:x≠y):aaY l m=if x<y then -1 else 1:=by
 induction l generalizing m i with
 |nil=>simp at hx
 |cons a l ih =>
  cases m with
  |nil=>simp at hy
  |cons b m =>
   cases i with
   |zero =>
    simp at hx hy; subst hx hy;rw[aaY]
    split
    ·rfl
    ·rw[if_pos (by omega)]
   |succ i =>
    have e:=hp 0 a b (by omega) rfl rfl;subst e;rw[aaY,if_neg (by omega),if_neg (by omega)];exact ih (by simpa using hx) (by simpa using hy) fun j a b hj ha hb=>hp (j+1) a b (by omega) ha hb
def aeq {l k:List Int} (h:k.length=l.length) (hl:l.length≤1000) (X Y:Option ρ):Ê (fun(v:Int) kk=>Ŭ l k (Ø k) v (fun u=>kk u) (fun z=>ifb (ige z (0:Int)) X Y) (fun _=>X)) 0=if 0≤aaY k l then X else Y:=by
 have:=Ę (r:=if 0≤aaY k l then X else Y) (f:=fun v kk=>Ŭ l k (Ø k) v (fun u=>kk u) (fun z=>ifb (ige z (0:Int)) X Y) (fun _=>X)) (x:=(0:Int)) (fun x=>∃i:Nat,x=i∧i≤k.length∧∀(j:Nat) (a b:Int),j<i→k[j]?=some a→l[j]?=some b→a=b) (fun x=>k.length-x.toNat) ?_ ⟨0,rfl,dJ _,fun j a b hj=>by omega⟩
 ·exact this
 ·rintro x ⟨i,rfl,hi,hp⟩;rcases cX i k.length with hlt|hge
  ·have hx:k[i]?=some k[i]:=cA hlt;have hy:l[i]?=some l[i]:=cA (by omega)
   have hf:∀kn,Ŭ l k (Ø k) (i:Int) kn (fun z=>ifb (ige z (0:Int)) X Y) (fun _=>X)=if k[i]=l[i] then kn ((i:Int)+1) else if k[i]<l[i] then Y else X:=fun kn=>by
    unfold Ŭ;rw[Ñ hlt,È hx,Ì (by simp[ige,Ò]; omega),È hy,ade,À,Ë hlt (by omega)]
    by_cases h1:k[i]<l[i]
    ·rw[if_pos h1,if_neg (by omega),if_pos h1]; rfl
    ·rw[if_neg h1]
     by_cases h2:l[i]<k[i]
     ·rw[if_pos h2,if_neg (by omega),if_neg h1]; rfl
     ·rw[if_neg h2,if_pos (by omega)]; rfl
   by_cases he:k[i]=l[i]
   ·refine .inr ⟨(i:Int)+1,⟨i+1,by simp,hlt,fun j a b hj ha hb=>?_⟩,by omega,fun kn=>by rw[hf,if_pos he]⟩;rcases cX j i with h1|h1
    ·exact hp j a b h1 ha hb
    ·have:j=i:=by omega
     subst this;rw[hx] at ha; rw[hy] at hb;cases ha; cases hb;exact he
   ·refine .inl fun kn=>?_;rw[hf,if_neg he,lex_at hx hy hp he]
    by_cases h1:k[i]<l[i]
    ·rw[if_pos h1,if_pos h1]; rfl
    ·rw[if_neg h1,if_neg h1]; rfl
  ·refine .inl fun kn=>?_
   have:i=k.length:=by omega
   subst this;unfold Ŭ;rw[ß,agT h fun j a b ha hb=>hp j a b (List.getElem?_eq_some_iff.1 ha).1 ha hb];rfl
abbrev stI (st:List Int×Nat×List Nat) (n:Nat):List Int×Int×Int×List Int:=(st.1,(st.2.1:Int),(n:Int),st.2.2.map fun(x:Nat)=>(x:Int))
def ZM (h:MOk m) {ids:List Int} (hi:ids.length≤8) {n N:Nat} (hn:n<N) (hN:N≤256) {st:List Int×Nat×List Nat} (h1:st.1.length≤8) (ho:st.2.2.length≤n) (hop:∀x∈st.2.2,x<n) (kn:List Int→Int→Int→List Int→Option ρ) (k0:Int×List Int→Option ρ) :
 ŭ (ĝ m.2) (N:Int) ids m.1.1.1 m.1.1.2 m.1.2.1 m.1.2.2.1 m.1.2.2.2.1 m.1.2.2.2.2.1 m.1.2.2.2.2.2 m.2 (stI st n).1 (stI st n).2.1 (stI st n).2.2.1 (stI st n).2.2.2 kn k0=kn (stI (Hg m ids st n) (n+1)).1 (stI (Hg m ids st n) (n+1)).2.1 (stI (Hg m ids st n) (n+1)).2.2.1 (stI (Hg m ids st n) (n+1)).2.2.2:=by
 have hcl:=oQ ids n;dsimp only;unfold ŭ
 have hop':∀x∈st.2.2,x<9223372036854775808:=fun x hx=>by have:=hop x hx; omega
 have ho':(st.2.2.map fun(x:Nat)=>(x:Int)).length≤1000:=by rw[dz]; omega
 have e1:∀f:Int→Option ρ,ck ((n:Int)+(1:Int)) f=f ((n+1:Nat):Int):=fun f=>by rw[Ó (by omega) (by omega)]; simp
 rw[Ù (by simp[ilt]; omega),Es (by omega) (by omega),À];unfold Hg
 by_cases hgt:st.1.length<(ĉ ids n).length
 ·rw[Ù (by simp[igt,Ò]; omega),if_pos (.inl hgt),e1]
 ·rw[Ì (by simp[igt,Ò]; omega)]
  have inner:∀K1 K2:Option ρ,Ê (fun(v53:Int) kk55=>Ŏ (n:Int) (Ø (st.2.2.map fun(x:Nat)=>(x:Int))) (st.2.2.map fun(x:Nat)=>(x:Int)) v53 (fun u54=>kk55 u54) (fun _=>ck ((n:Int)+(1:Int)) fun n38=>kn st.1 (st.2.1:Int) n38 (st.2.2.map fun(x:Nat)=>(x:Int))) (fun _=>Ê (fun(v49:Int×List Int) kk52=>ō (n:Int) (ĝ m.2) (Ø (ĝ m.2)) ids m.1.1.1 m.1.1.2 m.1.2.1 m.1.2.2.1 m.1.2.2.2.1 m.1.2.2.2.2.1 m.1.2.2.2.2.2 m.2 v49.1 v49.2 (fun u50 u51=>kk52 (u50,u51)) (fun z45=>ck ((n:Int)+(1:Int)) fun n46=>kn st.1 (st.2.1:Int) n46 z45) (fun z47=>ck ((n:Int)+(1:Int)) fun n48=>kn (ĉ ids n) (n:Int) n48 z47)) ((0:Int),st.2.2.map fun(x:Nat)=>(x:Int)))) (0:Int) =
   (fun s2=>kn (stI s2 (n+1)).1 (stI s2 (n+1)).2.1 (stI s2 (n+1)).2.2.1 (stI s2 (n+1)).2.2.2) (if st.2.2.any (agt n) then st else if nV (sl m (ĉ ids n)) then(st.1,st.2.1,st.2.2++[n]) else(ĉ ids n,n,st.2.2)):=fun _ _=>by
   rw[aeo h (by omega) (by omega) ho',aep (by omega) (by omega) hop',e1,e1,e1]
   cases st.2.2.any (agt n) with
   |true=>rfl
   |false =>
    cases nV (sl m (ĉ ids n)) with
    |true=>simp
    |false=>rfl
  by_cases heq:(ĉ ids n).length=st.1.length
  ·rw[Ù (by simp[ieq,Ò]; omega),inner none none,Ì (show ilt (Ø (ĉ ids n)) (Ø st.1)=false by simp[ilt,Ò]; omega),aeq heq (by omega),e1]
   by_cases hlex:0≤aaY (ĉ ids n) st.1
   ·rw[if_pos hlex,if_pos (.inr ⟨heq,hlex⟩)]
   ·rw[if_neg hlex,if_neg (show ¬(st.1.length<(ĉ ids n).length∨((ĉ ids n).length=st.1.length∧0≤aaY (ĉ ids n) st.1)) from fun h=>h.elim hgt fun h=>hlex h.2)]
  ·rw[Ì (by simp[ieq,Ò]; omega),inner none none,if_neg (show ¬(st.1.length<(ĉ ids n).length∨((ĉ ids n).length=st.1.length∧0≤aaY (ĉ ids n) st.1)) from fun h=>h.elim hgt fun h=>heq h.1)]
def aek {ids:List Int} {n:Nat} {st:List Int×Nat×List Nat} (hi:ids.length≤8) (h1:st.1.length≤8) (h2:st.2.2.length≤n) (h3:∀x∈st.2.2,x<n):(Hg m ids st n).1.length≤8∧(Hg m ids st n).2.2.length≤n+1∧∀x∈(Hg m ids st n).2.2,x<n+1:=by
 have hcl:=oQ ids n;unfold Hg
 split
 ·exact⟨h1,by omega,fun x hx=>by have:=h3 x hx; omega⟩
 split
 ·exact⟨h1,by omega,fun x hx=>by have:=h3 x hx; omega⟩
 split
 ·refine⟨h1,by simp; omega,fun x hx=>?_⟩;rcases cG.1 hx with hx|hx
  ·have:=h3 x hx; omega
  ·rw[cM.1 hx]; omega
 ·exact⟨by dsimp only; omega,by dsimp only; omega,fun x hx=>by have:=h3 x hx; omega⟩
def Ye {ids:List Int} (hi:ids.length≤8):∀n,(Hj m ids n).1.length≤8∧(Hj m ids n).2.2.length≤n∧∀x∈(Hj m ids n).2.2,x<n
 |0=>⟨hi,cB _,fun x hx=>by cases hx⟩
 |n+1=>by
  obtain⟨h1,h2,h3⟩:=Ye hi n;have:=aek (m:=m) hi h1 h2 h3;unfold Hj at this ⊢;rw[List.range_succ,List.foldl_append];exact this
def pow8 {n:Nat} (h:n≤8):1≤2 ^ n∧2 ^ n≤256:=⟨Nat.one_le_pow _ _ (by decide),Nat.pow_le_pow_right (by decide) h⟩
def Y3 {ids:List Int} (hi:ids.length≤8):∀n,n≤256→(Hj m ids n).2.1≤256
 |0,_=>by have:=(pow8 hi).2; show 2 ^ ids.length-1≤256; omega
 |n+1,hn=>by
  have ih:=Y3 hi n (by omega);unfold Hj at ih ⊢;rw[List.range_succ,List.foldl_append];show(Hg m ids _ n).2.1≤256;unfold Hg
  split
  ·exact ih
  split
  ·exact ih
  split
  ·exact ih
  ·dsimp only; omega
def XP (hs:In m.1) (hn:m.2.length≤1000) {ids:List Int} (hil:ids.length≤1000000):rA m ids=some (adZ m ids):=by
 unfold rA xa adZ;rw[mw hs hn,À]
 by_cases hc:Ļ m=0
 ·have h:=(ň m).1 hc;rw[Ì (by simp[ine,hc]),if_neg (by simp[hc])]
  by_cases h8:8<ids.length
  ·rw[Ù (by simp[igt,Ò]; omega),if_pos h8]
  ·have hi:ids.length≤8:=by omega
   obtain⟨p1,p2⟩:=pow8 hi;rw[Ì (by simp[igt,Ò]; omega),if_neg h8,aet h.good.size.compares (by omega)]
   cases ids.all (fun i=>(Xl m).contains i) with
   |false=>rfl
   |true =>
    rw[if_pos rfl,if_neg (by simp),aes (by omega)]
    by_cases hp:ids.Pairwise (·<·)
    ·have hsh:shlI .i64 (1:Int) (Ø ids)=((2 ^ ids.length:Nat):Int):=by
      unfold shlI;rw[Ò,Int.toNat_natCast,Nat.min_eq_left (by show ids.length≤64; omega),Int.one_mul,show((2:Int) ^ ids.length)=((2 ^ ids.length:Nat):Int) by simp,aa7 (by omega)]
     have e0:((2 ^ ids.length:Nat):Int)-1=((2 ^ ids.length-1:Nat):Int):=by omega
     rw[if_pos hp,if_neg (by simpa using hp),IP h,À,Đ (by simp[ile,Ò]),hsh,Ó (by omega) (by omega),e0]
     have loop:Ê (fun(v91:List Int×Int×Int×List Int) kk96=>ŭ (ĝ m.2) ((2 ^ ids.length-1:Nat):Int) ids m.1.1.1 m.1.1.2 m.1.2.1 m.1.2.2.1 m.1.2.2.2.1 m.1.2.2.2.2.1 m.1.2.2.2.2.2 m.2 v91.1 v91.2.1 v91.2.2.1 v91.2.2.2 (fun u92 u93 u94 u95=>kk96 (u92,u93,u94,u95)) (fun z89=>Ã (ij ids z89.1) fun r90=>some (r90,(0:Int)))) (ids,((2 ^ ids.length-1:Nat):Int),(0:Int),[])=some (ĉ ids (Hj m ids (2 ^ ids.length-1)).2.1,0):=by
      refine Ę (fun x=>∃n:Nat,n≤2 ^ ids.length-1∧x=stI (Hj m ids n) n) (fun x=>2 ^ ids.length-1-x.2.2.1.toNat) ?_ ⟨0,dJ _,rfl⟩;rintro x ⟨n,hn',rfl⟩;obtain⟨i1,i2,i3⟩:=Ye (m:=m) hi n;rcases cX n (2 ^ ids.length-1) with hlt|hge
      ·refine .inr ⟨stI (Hj m ids (n+1)) (n+1),⟨n+1,hlt,rfl⟩,by dsimp only; omega,fun kn=>?_⟩;have:=ZM h hi hlt (by omega) i1 i2 i3 (fun a b c d=>kn (a,b,c,d)) (fun z89=>Ã (ij ids z89.1) fun r90=>some (r90,(0:Int)));rw[this];unfold Hj;rw[List.range_succ,List.foldl_append]; rfl
      ·have:n=2 ^ ids.length-1:=by omega
       subst this;refine .inl fun kn=>?_;have hf:=Y3 (m:=m) hi (2 ^ ids.length-1) (by omega);dsimp only;unfold ŭ;rw[Ì (by simp[ilt])];dsimp only;rw[Es (by omega) (by omega)]; rfl
     have h3:=aer h (ids:=ids) (by omega) (s:=2 ^ ids.length-1) (by omega) (some ([],(5:Int))) (some (ĉ ids (Hj m ids (2 ^ ids.length-1)).2.1,0));rw[loop,h3]
     split<;>rfl
    ·rw[if_neg hp,if_pos hp]
 ·rw[Ù (by simp[ine,hc]),if_pos hc]
end
def VG (b:Ğ) (x d:Int):Int:=match jj (Ú b) x d with|some j=>(j:Int)+1|none=>0
def Mj (b:Ğ) (n:Int×Int):Int×Int:=if ű b≠0 then(0,ű b) else if VG b n.1 n.2=0 then(0,5) else(VG b n.1 n.2,0)
def Mk {b:Ğ} (h:In b) (n:Int×Int):pL b n=some (Mj b n):=by
 have hl:=Ow h.size;unfold pL K6 Mj;rw[yU h.size h.num,À]
 by_cases hc:ű b=0
 ·rw[Ì (by simp[ine,hc]),if_neg (show ¬(ű b≠0) from fun h=>h hc),PS h.size,À,show ï (Ú b) n=ï (Ú b) (n.1,n.2) from rfl,Vz (by omega),À];unfold VG
  cases hx:jj (Ú b) n.1 n.2 with
  |none=>rfl
  |some j =>
   have:=(jV hx).1;simp only;rw[Ì (by simp[ilt]),Ó (by omega) (by omega),if_neg (by omega)]
 ·rw[Ù (by simp[ine,hc]),if_pos hc]
def rW (b:Ğ) (n:Int×Int):Ğ:=(b.1,b.2.1,b.2.2.1,b.2.2.2.1,b.2.2.2.2.1,b.2.2.2.2.2++[n])
def ach {b:Ğ} (h:Ν b) (n:Int×Int):vL (rW b n):=by
 have hs:=h.size;have:=h.nK;exact⟨hs.gauges,hs.uses,hs.loans,hs.compares,by simp[rW]; omega,hs.piles⟩
def aht (b:Ğ) (n:Int×Int):Ğ×Int:=if ű b≠0 then(adN,ű b) else if ű (rW b n)≠0 then(adN,ű (rW b n)) else(rW b n,0)
def ahs {b:Ğ} (h:In b) (n:Int×Int):IH b n=some (aht b n):=by
 have hs:=h.size;have h1:=hs.gauges; have h2:=hs.uses; have h3:=hs.loans; have h4:=hs.compares; have h5:=hs.looks;unfold IH Rj aht;rw[yU hs h.num,À]
 by_cases hc:ű b=0
 ·have hg:=(ψ b).1 hc;rw[Ì (by simp[ine,hc]),Û (by omega),Am.iff_true,Û (by omega),Am.iff_true,Û (by omega),Am.iff_true,Û (by omega),Am.iff_true,Û (by omega),Am.iff_true,if_neg (show ¬(ű b≠0) from fun h=>h hc)];refine ģ b.2.2.2.2.1 (fun _=>b.2.2.2.2.1) _ rfl (fun i d hi hd kn=>?_) (fun kn=>?_)
  ·dsimp only;unfold uU;obtain⟨p1,p2⟩:=hs.piles d (List.mem_of_getElem? hd)
   have e1:b.2.2.2.2.1.set i d=b.2.2.2.2.1:=by
    obtain⟨h,rfl⟩:=cE.1 hd;exact List.set_getElem_self h
   rw[Ñ hi,š hi,Ė hd,Û (by omega),Am.iff_true,Û (by omega),Am.iff_true,š hi,Ė hd,cQ];rw[show(d.1,d.2.1,d.2.2.1,d.2.2.2)=d from rfl,e1,š hi,iV hd,Ë hi (by omega)];rw[show(d.1,d.2.1,d.2.2.1,d.2.2.2.1,d.2.2.2.2)=d from rfl,e1]
  ·try dsimp only
   unfold uU;rw[ß];dsimp only;rw[Û (by simp only[List.length_singleton]; omega),Am.iff_true];rw[show Ε (b.1,b.2.1,b.2.2.1,b.2.2.2.1,b.2.2.2.2.1,b.2.2.2.2.2++[n])=Ε (rW b n) from rfl,yU (ach hg n) h.num,À]
   by_cases hc2:ű (rW b n)=0
   ·rw[Ì (by simp[ine,hc2]),if_neg (show ¬(ű (rW b n)≠0) from fun h=>h hc2)];rfl
   ·rw[Ù (by simp[ine,hc2]),if_pos hc2];rfl
 ·rw[Ù (by simp[ine,hc]),if_pos hc];rfl
def yV (b:Ğ) (n:Int×Int):Ğ×Int:=if VG b n.1 n.2≠0 then(b,0) else if ű (rW b n)≠0 then(adN,ű (rW b n)) else(rW b n,0)
structure Room (B:Ğ):Prop where
 good:Ν B
 op:kj (iN B) ((Ú B).length+1)=true
 num:∀g∈B.2.1,I64 g.2.2.2.2.1.1
def agV (B:Ğ) (n:Int×Int):0≤VG B n.1 n.2∧VG B n.1 n.2<((Ú B).length+1:Nat):=by
 unfold VG
 cases h:jj (Ú B) n.1 n.2 with
 |none=>dsimp only; omega
 |some j=>have:=(jV h).1; dsimp only; omega
def dstR (B:Ğ) (s t:Int):Int:=dst (iN B) ((Ú B).length+1) s t
def ivR (B:Ğ) (n:Int×Int):Int×Int:=(-(dstR B (VG B n.1 n.2) 0),dstR B 0 (VG B n.1 n.2))
def O2 {ρ α:Type} {l:List α} {i:Int} (h0:0≤i) {a:α} (h:l[i.toNat]?=some a) (f:α→Option ρ):Ċ l i f=f a:=by
 obtain⟨n,rfl⟩:=Int.eq_ofNat_of_zero_le h0;exact È (by simpa using h) f
def iQ (x:List Int) (y:List Int) (l:Lk):List Int:=if gv x l.2.1=Ŗ then y else y.set l.1.toNat (min (gv y l.1) (l.2.2+gv x l.2.1))
def Pd (L:List Lk) (N:Nat) (x:List Int):List Int:=L.foldl (iQ x) (List.replicate N Ŗ)
def exL (L:List Lk) (N:Nat) (to:Int):Nat→List Int
 |0=>(List.replicate N Ŗ).set to.toNat 0
 |k+1=>Pd L N (exL L N to k)
def lD (L:List Lk) (N:Nat) (to:Int) (most:Nat):List (List Int):=(List.range (most+1)).map (exL L N to)
section
variable {L:List Lk} {N:Nat}
def Gc (x y:List Int) (l:Lk):(iQ x y l).length=y.length:=by unfold iQ; split<;>simp
def Gd (x:List Int):∀(M:List Lk) (y:List Int),(M.foldl (iQ x) y).length=y.length
 |[],y=>rfl
 |l::M,y=>by rw[fG,Gd x M,Gc]
def aat (x:List Int):(Pd L N x).length=N:=by unfold Pd; rw[Gd]; simp
def Xq (to:Int) (k:Nat):(exL L N to k).length=N:=by
 cases k with
 |zero=>simp[exL]
 |succ k=>exact aat _
def Lim (B:Int) (x:List Int):Prop:=∀v:Int,gv x v≠Ŗ→-B≤gv x v∧gv x v≤B
def gv_out {x:List Int} {v:Int} (h:¬v.toNat<x.length):gv x v=0:=by
 unfold gv;rw[List.getElem?_eq_none (by omega)];rfl
def La {B:Int} (hB:0≤B):Lim B (List.replicate N Ŗ):=by
 intro v hv
 by_cases h:v.toNat<N
 ·exfalso; apply hv;unfold gv;rw[List.getElem?_replicate,if_pos h];rfl
 ·rw[gv_out (by simpa using h)]; omega
def acs {B:Int} {y:List Int} (hy:Lim B y) {u:Int} (hu:0≤u) (hl:u.toNat<y.length) {a:Int} (ha:a≠Ŗ→-B≤a∧a≤B):Lim B (y.set u.toNat a):=by
 intro v hv
 by_cases h:v.toNat=u.toNat
 ·have:gv (y.set u.toNat a) v=a:=by
   unfold gv;rw[h,List.getElem?_set_self hl];rfl
  rw[this] at hv ⊢;exact ha hv
 ·have:gv (y.set u.toNat a) v=gv y v:=by
   unfold gv;rw[List.getElem?_set_ne (fun e=>h e.symm)]
  rw[this] at hv ⊢;exact hy v hv
def YJ (hS:ja L N) {B:Int} (hB:0≤B) (hB2:B≤1000000000000000000) {x y:List Int} (hx:Lim B x) (hy:Lim (B+4503599627370496) y) (hl:y.length=N) {l:Lk} (hm:l∈L):Lim (B+4503599627370496) (iQ x y l):=by
 unfold iQ
 split
 ·exact hy
 ·rename_i hf;have h1:=hS.inr l hm;have h2:=hS.most l hm;have h3:=hx _ hf;refine acs hy h1.1.1 (by omega) fun ha=>?_
  by_cases h4:gv y l.1=Ŗ
  ·rw[h4] at ha ⊢
   have:min Ŗ (l.2.2+gv x l.2.1)=l.2.2+gv x l.2.1:=by unfold Ŗ; omega
   rw[this]; omega
  ·have:=hy _ h4;omega
def YK (hS:ja L N) {B:Int} (hB:0≤B) (hB2:B≤1000000000000000000) {x:List Int} (hx:Lim B x):∀(M:List Lk),(∀l∈M,l∈L)→∀y:List Int,y.length=N→Lim (B+4503599627370496) y→Lim (B+4503599627370496) (M.foldl (iQ x) y)
 |[],_,y,_,hy=>hy
 |l::M,hM,y,hl,hy=>by
  rw[fG];exact YK hS hB hB2 hx M (fun m hm=>hM m (by simp[hm])) _ (by rw[Gc,hl]) (YJ hS hB hB2 hx hy hl (hM l (by simp)))
def BL (hS:ja L N) {to:Int} (ht:0≤to∧to<N):∀k:Nat,k≤200→Lim (k*4503599627370496) (exL L N to k)
 |0,_=>by
  unfold exL;exact acs (La (by omega)) ht.1 (by simp; omega) (fun _=>by omega)
 |k+1,hk=>by
  have:=YK hS (B:=k*4503599627370496) (by omega) (by omega) (BL hS ht k (by omega)) L (fun _ h=>h) (List.replicate N Ŗ) (by simp) (La (by omega));unfold exL Pd
  have e:(((k+1:Nat):Int)*4503599627370496)=(k:Int)*4503599627370496+4503599627370496:=by push_cast; omega
  rw[e];exact this
def U0 {ρ:Type} (hN:N≤1000) (K:List Int→Option ρ) {f:Int×List Int→(Int×List Int→Option ρ)→Option ρ}
 (hf:∀(v:Int×List Int) kk,f v kk=yo (N:Int) v.1 v.2 (fun u34 u35=>kk (u34,u35)) K):Ê f ((0:Int),List.replicate N (0:Int))=K (List.replicate N Ŗ):=by
 refine ģ (List.replicate N (0:Int)) (fun i=>List.replicate i Ŗ++List.replicate (N-i) (0:Int)) _ (by simp) (fun i a hi ha kn=>?_) (fun kn=>?_)
 ·rw[hf];dsimp only;unfold yo;rw[List.length_replicate] at hi
  have hlen:(List.replicate i Ŗ++List.replicate (N-i) (0:Int)).length=N:=by simp; omega
  have e1:ilt (i:Int) (N:Int)=true:=decide_eq_true (by omega);rw[Ù e1,show ñ (List.replicate i Ŗ++List.replicate (N-i) (0:Int))=(N:Int) by unfold ñ; rw[hlen],ŵ (by omega) (by omega),jO (by rw[hlen]; omega),Ó (by omega) (by omega)];congr 2;rw[Int.toNat_natCast];rw[List.set_append_right _ _ (by simp),List.length_replicate,Nat.sub_self];rw[show N-i=(N-(i+1))+1 by omega,List.replicate_succ,List.set_cons_zero,List.replicate_succ'];simp
 ·rw[hf];dsimp only;unfold yo;rw[List.length_replicate];have e1:ilt (N:Int) (N:Int)=false:=decide_eq_false (by omega);rw[Ì e1];simp
def okN (hN:N≤1000) {ρ:Type} (x:Option ρ):è ((ile (0:Int) (N:Int))&&(î (Int.toNat (N:Int)))) x=x:=by
 rw[Đ];rw[cQ,Û (by omega),Bool.and_true];exact decide_eq_true (by omega)
def acr {ρ:Type} (hS:ja L N) {B:Int} (hB:0≤B) (hB2:B≤1000000000000000000) {x:List Int} (hx:Lim B x) (hxl:x.length=N) (K:List Int→Option ρ) :
 Ê (fun(v20:(Val (.pair tI (.slice tI)))) kk23=>De x L (Ø L) v20.1 v20.2 (fun u21 u22=>kk23 (u21,u22)) K) ((0:Int),List.replicate N Ŗ)=K (Pd L N x):=by
 have hl3:=hS.len;refine ģ L (fun i=>(L.take i).foldl (iQ x) (List.replicate N Ŗ)) _ rfl (fun i l hi hl kn=>?_) (fun kn=>?_)
 ·try dsimp only
  unfold De;have hm:=List.mem_of_getElem? hl;have h1:=hS.inr l hm;have h2:=hS.most l hm;rw[Ñ hi,È hl,uZ h1.2.1 (by omega),take_succ hl,List.foldl_append,Ë hi (by omega)]
  have hlen:((L.take i).foldl (iQ x) (List.replicate N Ŗ)).length=N:=by rw[Gd]; simp
  generalize (L.take i).foldl (iQ x) (List.replicate N Ŗ)=y at hlen ⊢
  by_cases hf:gv x l.2.1=Ŗ
  ·rw[Ì (by rw[hf]; rfl)];simp only[List.foldl_cons,List.foldl_nil];unfold iQ;rw[if_pos hf]
  ·have h3:=hx _ hf;rw[Ù (bne_iff_ne.2 hf),show ñ y=(N:Int) by unfold ñ; rw[hlen],ŵ h1.1.1 h1.1.2,jO (by omega),uZ h1.2.1 (by omega),Ó (by omega) (by omega),ŵ h1.1.1 h1.1.2,jO (by omega),Ë hi (by omega)];simp only[List.foldl_cons,List.foldl_nil];unfold iQ;rw[if_neg hf,Xi]
 ·try dsimp only
  unfold De;rw[ß,List.take_length];rfl
def afa {ρ:Type}:@QA ρ=@yo ρ:=rfl
def Ga (to:Int) (m:Nat):(lD L N to m).length=m+1:=by simp[lD]
def Gb {to:Int} {m k:Nat} (hk:k≤m):(lD L N to m)[k]?=some (exL L N to k):=by
 unfold lD;rw[List.getElem?_map,List.getElem?_range (by omega)];rfl
def ae9 (hS:ja L N) {to:Int} (ht:0≤to∧to<N) {most:Nat} (hm:most≤100):Ei ((N:Int),L) to (most:Int)=some (lD L N to most):=by
 have hN:=hS.n60
 unfold Ei Ki
 dsimp only;rw[okN (by omega),Int.toNat_natCast];refine(U0 (by omega) _ (fun v kk=>by rw[Ò,List.length_replicate])).trans ?_;rw[show ñ (List.replicate N Ŗ)=(N:Int) by simp[ñ],ŵ ht.1 ht.2,jO (by simp; omega)];refine ģ (List.replicate most ()) (fun i=>lD L N to i) _ (by simp[lD,exL]) (fun i a hi ha kn=>?_) (fun kn=>?_)
 ·try dsimp only
  unfold Iq;rw[List.length_replicate] at hi;have e1:ilt (i:Int) (most:Int)=true:=decide_eq_true (by omega);rw[Ù e1,Ò,Ga]
  have e2:(((i+1:Nat):Int)-1)=(i:Int):=by omega
  rw[e2,Ó (by omega) (by omega),show ñ (lD L N to i)=((i+1:Nat):Int) by unfold ñ; rw[Ga],ŵ (by omega) (by omega),Int.toNat_natCast,iV (Gb (Nat.le_refl i)),okN (by omega),Int.toNat_natCast];rw[afa];refine(U0 (by omega) _ (fun v kk=>by rw[Ò,List.length_replicate])).trans ?_;refine(acr hS (B:=i*4503599627370496) (by omega) (by omega) (BL hS ht i (by omega)) (Xq _ _) _).trans ?_;rw[Đ (Û (by simp only[Ga,List.length_singleton]; omega)),Ó (by omega) (by omega)];congr 2;unfold lD;rw[List.range_succ (n:=i+1),List.map_append];rfl
 ·try dsimp only
  unfold Iq;rw[List.length_replicate];have e1:ilt (most:Int) (most:Int)=false:=decide_eq_false (by omega);rw[Ì e1]
def PV (L:List Lk) (x:List Int) (good:Int→Bool) (u sum:Int):Option Nat:=L.findIdx? fun l=>l.1==u&&(decide (gv x l.2.1≠Ŗ)&&good (sum+l.2.2+gv x l.2.1))
def nM (L:List Lk) (rest:Nat→List Int) (good:Int→Bool):Nat→Int→Int→List Int→List Int
 |0,_,_,out=>out
 |k+1,u,sum,out=>match PV L (rest k) good u sum with
  |some i=>nM L rest good k (L[i]?.getD (0,0,0)).2.1 (sum+(L[i]?.getD (0,0,0)).2.2) (out++[(i:Int)])
  |none=>nM L rest good k u sum out
def folL {ρ:Type} (good:Int→Bool) (c0:Int) (c1:List (List Int)) (c2:List Lk) (c3:Int) (v0:Int) (v1:Int) (v2:Int) (v3:List Int) (kn:Int→Int→Int→List Int→Option ρ) (k0:Int×Int×List Int→Option ρ):Option ρ :=
 ifb (ilt v2 c3) (Ċ c2 v2 fun e7=>ifb (ieq e7.1 v0) (ck (c0-(1:Int)) fun n8=>Ċ c1 n8 fun e9=>Ċ e9 e7.2.1 fun e10=>ifb (ine e10 (1152921504606846976:Int)) (ck (v1+e7.2.2) fun n11=>ck (c0-(1:Int)) fun n12=>Ċ c1 n12 fun e13=>Ċ e13 e7.2.1 fun e14=>ck (n11+e14) fun n15=>ifb (good n15) (è (î ((List.length v3)+(List.length ([v2])))) (ck (v1+e7.2.2) fun n16=>k0 (e7.2.1,n16,(v3++([v2]))))) (ck (v2+(1:Int)) fun n17=>kn v0 v1 n17 v3)) (ck (v2+(1:Int)) fun n18=>kn v0 v1 n18 v3)) (ck (v2+(1:Int)) fun n19=>kn v0 v1 n19 v3)) (k0 (v0,v1,v3))
def ag1 {ρ:Type} (hS:ja L N) (good:Int→Bool) {rest:List (List Int)} {k:Nat} {x:List Int} (hr:rest[k]?=some x) (hk:k≤100) (hx:Lim 1000000000000000000 x) (hxl:x.length=N) {u sum:Int} (hs : -1000000000000000000≤sum∧sum≤1000000000000000000) {out:List Int} (ho:out.length≤1000)
 (K:Int×Int×List Int→Option ρ):Ê (fun(v:Int×Int×Int×List Int) kk=>folL good ((k+1:Nat):Int) rest L (Ø L) v.1 v.2.1 v.2.2.1 v.2.2.2 (fun a b c d=>kk (a,b,c,d)) K) (u,sum,(0:Int),out) =
  match PV L x good u sum with|some i=>K ((L[i]?.getD (0,0,0)).2.1,sum+(L[i]?.getD (0,0,0)).2.2,out++[(i:Int)])|none=>K (u,sum,out):=by
 have hl3:=hS.len;refine Ę (fun v=>∃i:Nat,i≤L.length∧v=(u,sum,(i:Int),out)∧∀j l,j<i→L[j]?=some l→(l.1==u&&(decide (gv x l.2.1≠Ŗ)&&good (sum+l.2.2+gv x l.2.1)))=false) (fun v=>L.length-v.2.2.1.toNat) ?_ ⟨0,by omega,rfl,fun j l h=>by omega⟩;rintro v ⟨i,hi,rfl,hp⟩
 have e0:(((k+1:Nat):Int)-1)=(k:Int):=by omega
 rcases cX i L.length with h2|h2
 ·have hl:L[i]?=some L[i]:=cA h2;generalize L[i]=l at hl;have hm:=cI hl;have h1:=hS.inr l hm;have h4:=hS.most l hm
  have hstep:(l.1==u&&(decide (gv x l.2.1≠Ŗ)&&good (sum+l.2.2+gv x l.2.1)))=false→∃y,(∃i:Nat,i≤L.length∧y=(u,sum,(i:Int),out)∧∀j l,j<i→L[j]?=some l→(l.1==u&&(decide (gv x l.2.1≠Ŗ)&&good (sum+l.2.2+gv x l.2.1)))=false)∧(L.length-y.2.2.1.toNat<L.length-((u,sum,(i:Int),out):Int×Int×Int×List Int).2.2.1.toNat)∧y=(u,sum,(i:Int)+1,out):=fun hf =>
   ⟨_,⟨i+1,h2,by rw[show((i+1:Nat):Int)=(i:Int)+1 by push_cast; rfl],fun j m hj hm=>by
    rcases gy.1 hj with h|rfl
    ·exact hp j m h hm
    ·rw[hl] at hm; cases hm; exact hf⟩,by simp; omega,rfl⟩
  by_cases hf:(l.1==u&&(decide (gv x l.2.1≠Ŗ)&&good (sum+l.2.2+gv x l.2.1)))=true
  ·refine .inl fun kn=>?_
   have hfi:PV L x good u sum=some i:=by
    unfold PV;rw[List.findIdx?_eq_some_iff_getElem];obtain⟨hh,rfl⟩:=List.getElem?_eq_some_iff.1 hl;exact⟨h2,hf,fun j hj=>by have:=hp j _ hj (List.getElem?_eq_getElem (by omega)); rw[this]; simp⟩
   rw[hfi];simp only[Bool.and_eq_true,beq_iff_eq,decide_eq_true_eq] at hf;have h5:=hx _ hf.2.1;dsimp only;unfold folL
   rw[Ñ h2,È hl,Ù (by simp[hf.1]),e0,Ó (by omega) (by omega),È hr,uZ h1.2.1 (by omega),Ù (bne_iff_ne.2 hf.2.1),Ó (by omega) (by omega),Ó (by omega) (by omega),È hr,uZ h1.2.1 (by omega),Ó (by omega) (by omega),Ù hf.2.2,
    Đ (Û (by simp; omega)),Ó (by omega) (by omega),hl]
   rfl
  ·have hf':=Bool.not_eq_true _▸hf;obtain⟨y,hy1,hy2,rfl⟩:=hstep hf';refine .inr ⟨_,hy1,hy2,fun kn=>?_⟩;dsimp only;unfold folL;rw[Ñ h2,È hl,Ë h2 (by omega)]
   by_cases g1:l.1=u
   ·rw[Ù (by simp[g1]),e0,Ó (by omega) (by omega),È hr,uZ h1.2.1 (by omega)]
    by_cases g2:gv x l.2.1=Ŗ
    ·rw[Ì (by rw[g2]; rfl)]
    ·have h5:=hx _ g2
     have g3:good (sum+l.2.2+gv x l.2.1)=false:=by simpa[g1,g2] using hf'
     rw[Ù (bne_iff_ne.2 g2),Ó (by omega) (by omega),Ó (by omega) (by omega),È hr,uZ h1.2.1 (by omega),Ó (by omega) (by omega),Ì g3]
   ·rw[Ì (by simpa using g1)]
 ·refine .inl fun kn=>?_
  obtain rfl:i=L.length:=by omega
  have hfi:PV L x good u sum=none:=by
   unfold PV;rw[List.findIdx?_eq_none_iff];intro l hl;obtain⟨j,hj,rfl⟩:=List.mem_iff_getElem.1 hl;exact hp j _ hj (List.getElem?_eq_getElem hj)
  rw[hfi];dsimp only;unfold folL;rw[ß]
def folM {ρ:Type} (good:Int→Bool) (c0:List (List Int)) (c6:List Lk) (v0:Int) (v1:Int) (v2:Int) (v3:List Int) (kn:Int→Int→Int→List Int→Option ρ) (k0:List Int→Option ρ):Option ρ :=
 ifb (igt v1 (0:Int)) (Ê (fun(v22:Int×Int×Int×List Int) kk27=>folL good v1 c0 c6 (Ø c6) v22.1 v22.2.1 v22.2.2.1 v22.2.2.2 (fun u23 u24 u25 u26=>kk27 (u23,u24,u25,u26)) (fun z20=>ck (v1-(1:Int)) fun n21=>kn z20.1 n21 z20.2.1 z20.2.2)) (v0,v2,(0:Int),v3)) (k0 v3)
def ag0 {ρ:Type} (hS:ja L N) (good:Int→Bool) {rest:List (List Int)} {R:Nat→List Int} {k0:Nat} (hk:k0≤100) (hr:∀k,k<k0→rest[k]?=some (R k)) (hx:∀k,k<k0→Lim 900000000000000000 (R k)∧(R k).length=N) (u:Int) (K:List Int→Option ρ) :
 Ê (fun(v:Int×Int×Int×List Int) kk=>folM good rest L v.1 v.2.1 v.2.2.1 v.2.2.2 (fun a b c d=>kk (a,b,c,d)) K) (u,(k0:Int),(0:Int),[])=K (nM L R good k0 u 0 []):=by
 have key:=tv (f:=fun(v:Int×Int×Int×List Int) kk=>folM good rest L v.1 v.2.1 v.2.2.1 v.2.2.2 (fun a b c d=>kk (a,b,c,d)) K) (F:=fun v=>K (nM L R good v.2.1.toNat v.1 v.2.2.1 v.2.2.2))
  (fun v=>∃k:Nat,v.2.1=k∧k≤k0∧(-(((k0-k:Nat):Int)*4503599627370496)≤v.2.2.1∧v.2.2.1≤((k0-k:Nat):Int)*4503599627370496)∧v.2.2.2.length≤k0-k) (fun v=>v.2.1.toNat) (fun v hv kn hk=>?_) (x:=(u,(k0:Int),0,[])) ⟨k0,rfl,cB _,by simp,by simp⟩
 ·rw[key]; simp
 ·obtain⟨u,k',sum,out⟩:=v;obtain⟨k,e,h1,h2,h3⟩:=hv;dsimp only at e h2 h3 hk ⊢;subst e;rw[Int.toNat_natCast] at hk ⊢;unfold folM
  cases k with
  |zero =>
   rw[Ì (by rfl)];rfl
  |succ k =>
   rw[Ù (decide_eq_true (by omega))];have hh:=hx k (by omega)
   have hlim:Lim 1000000000000000000 (R k):=fun v hv=>by have:=hh.1 v hv; omega
   refine(ag1 hS good (hr k (by omega)) (by omega) hlim hh.2 (by omega) (by omega) _).trans ?_;unfold nM
   have e0:(((k+1:Nat):Int)-1)=(k:Int):=by omega
   cases hn:PV L (R k) good u sum with
   |none =>
    dsimp only;rw[e0,Ó (by omega) (by omega),hk _ ⟨k,rfl,by omega,by dsimp only; omega,by dsimp only; omega⟩ (by simp)];simp
   |some i =>
    have hi:i<L.length:=by
     unfold PV at hn;exact(List.findIdx?_eq_some_iff_getElem.1 hn).1
    have hl:L[i]?=some L[i]:=List.getElem?_eq_getElem hi;have h4:=hS.most L[i] (List.getElem_mem _);dsimp only;rw[hl];simp only[Option.getD_some];rw[e0,Ó (by omega) (by omega),hk _ ⟨k,rfl,by omega,by dsimp only; omega,by simp; omega⟩ (by simp)];simp
end
def AO (L:List Lk):Int→Int→List Int→Int×Int×Bool
 |u,s,[]=>(u,s,true)
 |u,s,i::t=>if (L[i.toNat]?.getD (0,0,0)).1=u then AO L (L[i.toNat]?.getD (0,0,0)).2.1 (s+(L[i.toNat]?.getD (0,0,0)).2.2) t else(0,0,false)
def AJ (L:List Lk) (i:Int):Bool:=decide (i<0)||decide ((L.length:Int)≤i)
def kK (L:List Lk) (l:List Int):Int:=if 80<l.length then 2 else if l.any (AJ L) then 1 else 0
def Zc (u:Int) (w:Int×Int×Bool):Int:=if w.2.2=true∧w.1=u∧w.2.1<0 then 0 else 8
def ŕ (L:List Lk) (l:List Int):Int :=
 if kK L l≠0 then kK L l else match l with
 |[]=>8
 |i::_=>Zc (L[i.toNat]?.getD (0,0,0)).1 (AO L (L[i.toNat]?.getD (0,0,0)).1 0 l)
section
variable {L:List Lk} {N:Nat}
def aao (N:Int) (hL:L.length≤1000) (l:List Int):vh (N,L) l=some (kK L l):=by
 unfold vh Br kK;dsimp only;rw[Ò]
 by_cases h:80<l.length
 ·rw[Ù (decide_eq_true (by omega)),if_pos h]
 ·rw[Ì (decide_eq_false (by omega)),if_neg h,←Ò l];refine(Š l (AJ L) (fun z=>ifb (ige z 0) (some 1) (some 0)) (some 1) (some 0) (fun j=>by rw[show ige (j:Int) 0=true from decide_eq_true (by omega)]; rfl) (fun i a hi ha kn=>?_) (fun kn=>?_)).trans ?_
  ·try dsimp only
   unfold mo AJ;rw[Ñ hi,È ha,Ë hi (by omega),Ò,Č,Č]
   by_cases h1:a<0
   ·simp[ilt,h1]
   ·by_cases h2:(L.length:Int)≤a
    ·simp[ilt,ige,h1,h2]
    ·simp[ilt,ige,h1,h2]
  ·try dsimp only
   unfold mo;rw[ß]
  ·cases l.any (AJ L)<;>rfl
def Xk {l:List Int} (h:kK L l=0):l.length≤80∧∀i∈l,0≤i∧i.toNat<L.length:=by
 unfold kK at h
 split at h
 ·omega
 ·rename_i h1
  split at h
  ·omega
  ·rename_i h2;refine⟨by omega,fun i hi=>?_⟩;have:=dG.1 (dW.2 h2) i hi;simp[AJ] at this;omega
def agl (hS:ja L N) (u:Int) {l:List Int} (h:kK L l=0):IE ((N:Int),L) u l=some (AO L u 0 l):=by
 obtain⟨hl,hi⟩:=Xk h;unfold IE Qy;dsimp only
 have:=tv (f:=fun(v7:Int×Int×Int) kk11=>uz l (Ø l) L v7.1 v7.2.1 v7.2.2 (fun u8 u9 u10=>kk11 (u8,u9,u10)) (fun z5=>some (z5.1,z5.2.1,z5.2.2)) (fun z6=>some (z6.1,z6.2,true)))
  (F:=fun v=>some (AO L v.1 v.2.1 (l.drop v.2.2.toNat))) (fun v=>∃i:Nat,v.2.2=i∧i≤l.length∧(-(i*4503599627370496)≤v.2.1∧v.2.1≤i*4503599627370496)) (fun v=>l.length-v.2.2.toNat) (fun v hv kn hk=>?_) (x:=(u,(0:Int),(0:Int))) ⟨0,rfl,by omega,by simp⟩
 ·exact this
 ·obtain⟨w,s,n⟩:=v;obtain⟨i,e,h1,h2⟩:=hv;dsimp only at e h2 hk ⊢;subst e;rw[Int.toNat_natCast] at hk ⊢;unfold uz;rcases Nat.lt_or_ge i l.length with h3|h3
  ·have ha:l[i]?=some l[i]:=List.getElem?_eq_getElem h3;have hd:l.drop i=l[i]::l.drop (i+1):=List.drop_eq_getElem_cons h3;rw[hd];have hx:=hi l[i] (List.getElem_mem _);generalize l[i]=a at ha hx;have hg:L[a.toNat]?=some L[a.toNat]:=List.getElem?_eq_getElem hx.2;have hm:=hS.most _ (List.mem_of_getElem? hg);generalize L[a.toNat]=x at hg hm;rw[Ñ h3,È ha,O2 hx.1 hg];unfold AO;rw[hg];simp only[Option.getD_some]
   by_cases hc:x.1=w
   ·rw[Ì (by rw[hc]; exact bne_self_eq_false' _),if_pos hc,Ó (by omega) (by omega),Ë h3 (by omega),hk _ ⟨i+1,by push_cast; rfl,h3,by dsimp only; push_cast; omega⟩ (by simp; omega)];simp
   ·rw[Ù (bne_iff_ne.2 hc),if_neg hc]
  ·obtain rfl:i=l.length:=by omega
   rw[ß,List.drop_length];rfl
def acD {ρ α:Type} (x:α) (t:List α) (f:α→Option ρ):Ċ (x::t) (0:Int) f=f x:=rfl
def N3 (hS:ja L N) (l:List Int):mu ((N:Int),L) l=some (ŕ L l):=by
 have hl3:=hS.len;unfold mu rR ŕ;rw[kZ hS,À,Ì (by rfl),aao _ (by omega),À]
 by_cases h:kK L l=0
 ·rw[Ì (by rw[h]; rfl),if_neg (by simp[h])]
  cases l with
  |nil=>rw[Ò]; rfl
  |cons i t =>
   have hx:=(Xk h).2 i (by simp);have hg:L[i.toNat]?=some L[i.toNat]:=List.getElem?_eq_getElem hx.2;generalize L[i.toNat]=x at hg;rw[Ò,Ì (beq_eq_false_iff_ne.2 (by simp; omega)),acD,O2 hx.1 hg,agl hS x.1 h,À];dsimp only;rw[hg];dsimp only[Option.getD_some];generalize AO L x.1 0 (i::t)=w;obtain⟨e,sum,ok⟩:=w;unfold Zc;dsimp only
   cases ok with
   |false=>rw[Ù (by rfl),if_neg (by simp)]
   |true =>
    rw[Ì (by rfl)]
    by_cases h2:e=x.1
    ·rw[Ì (by rw[h2]; exact bne_self_eq_false' _)]
     by_cases h3:sum<0
     ·rw[Ì (decide_eq_false (by omega)),if_pos ⟨rfl,h2,h3⟩]
     ·rw[Ù (decide_eq_true (by omega)),if_neg (fun h=>h3 h.2.2)]
    ·rw[Ù (bne_iff_ne.2 h2),if_neg (fun h=>h2 h.2.1)]
 ·rw[Ù (bne_iff_ne.2 h),if_pos h]
end
def aaD {L:List Lk} {N:Nat} (h:ja L N) (ho:kj L N=true):nl ((N:Int),L)=some ([],5):=by
 have hN:=h.n60;unfold nl Di;rw[kZ h,À,Ì (by rfl),tT h.links h.n1 (by omega),À,if_pos ho];rfl
def Vx {l m:List (Int×Int)} (hn:l.length≤1000000):jv l m=some (decide (l=m)):=by
 unfold jv rP;rw[Ò,Ò]
 by_cases hl:l.length=m.length
 ·rw[Ì (by simp[ine,hl])];refine eh (jZ l (fun i a=>if m[i]?=some a then none else some false) some (some true) (fun i a hi ha kn=>?_) (fun kn=>?_)) ?_
  ·try dsimp only
   unfold iZ;have hm:m[i]?=some m[i]:=List.getElem?_eq_getElem (by omega);rw[Ñ hi,È ha,È hm,Ë hi (by omega),hm,Č]
   have e:(!(kQ a.1 m[i].1&&(kQ a.2 m[i].2&&true)))=decide (¬(m[i]=a)):=by
    rw[fU];simp only[kQ,Bool.and_true,dO,f6,decide_eq_false_iff_not,decide_eq_true_eq];constructor
    ·intro h e; rw[e] at h; simp at h
    ·intro h
     by_cases h1:a.1=m[i].1
     ·by_cases h2:a.2=m[i].2
      ·exact absurd (Prod.ext h1 h2).symm h
      ·exact .inr h2
     ·exact .inl h1
   rw[e]
   by_cases h:m[i]=a
   ·simp[h]
   ·simp[h]
  ·try dsimp only
   unfold iZ;rw[ß]
  ·cases h:ķ (fun i a=>if m[i]?=some a then none else some false) 0 l with
   |none=>simp[I2 hl h]
   |some b =>
    obtain⟨h1,h2⟩:=I1 h;simp[h1,h2]
 ·rw[Ù (by simp[ine]; omega)];have:l≠m:=fun e=>hl (by rw[e]);simp[this]
def Zz (b:Ğ) (n:Int×Int):Prop:=∃g∈b.2.1,g.1=n.1∧n.2∈å b g
def Rw {b:Ğ} (h:Ν b) {n:Int×Int}:VG b n.1 n.2≠0↔Zz b n:=by
 unfold VG;constructor
 ·intro hne
  cases hx:jj (Ú b) n.1 n.2 with
  |none=>rw[hx] at hne; simp at hne
  |some j =>
   have hm:=List.mem_of_getElem? (jV hx).2;unfold Ú at hm;obtain⟨g,hg,hd⟩:=List.mem_flatMap.1 hm;obtain⟨d,hd,e⟩:=List.mem_map.1 hd;simp only[Prod.mk.injEq] at e;obtain⟨e1,rfl⟩:=e;exact⟨g,hg,e1,hd⟩
 ·rintro⟨g,hg,e,hd⟩;obtain⟨i,hi,rfl⟩:=List.mem_iff_getElem.1 hg;obtain⟨k,hk,e2⟩:=List.mem_iff_getElem.1 hd;rw[←e,PT h (List.getElem?_eq_getElem hi) (by rw[List.getElem?_eq_getElem hk,e2])];dsimp only;omega
def aci {b:Ğ} (n:Int×Int) (h':Ν (rW b n)):Zz (rW b n) n:=by
 have hu:=h'.looks n (by simp[rW]);unfold abc at hu
 split at hu
 ·omega
 obtain⟨g,hg,_⟩:=E6 h' hu;obtain⟨hm,e⟩:=gO hg;refine⟨g,hm,e,?_⟩;unfold å;rw[Cc];unfold U7 rW;simp only[List.mem_append,List.mem_map,List.mem_filter];exact .inr ⟨n,⟨.inr (by simp),by simp[e]⟩,rfl⟩
def abk {b:Ğ} {n:Int×Int} (e:(yV b n).2=0):(yV b n=(b,0)∧VG b n.1 n.2≠0)∨(yV b n=(rW b n,0)∧Ν (rW b n)∧VG b n.1 n.2=0):=by
 unfold yV at e ⊢
 split
 ·rename_i h; exact .inl ⟨rfl,h⟩
 ·rename_i h1;rw[if_neg h1] at e
  split
  ·rename_i h2; rw[if_pos h2] at e; exact absurd e h2
  ·rename_i h2; exact .inr ⟨rfl,(ψ _).1 (by simpa using h2),by simpa using h1⟩
def acj {b:Ğ} {n:Int×Int} {f:Int→Int→Int} {z:Int}:Hist (rW b n) f z↔Hist b f z :=
 ⟨fun h=>⟨fun g hg=>by have:=h.gauge g hg; exact⟨this.hi,this.lo,this.down,this.loss⟩,h.cmp⟩,fun h=>⟨fun g hg=>by have:=h.gauge g hg; exact⟨this.hi,this.lo,this.down,this.loss⟩,h.cmp⟩⟩
inductive Wk (L:List Lk) (to:Int):Nat→Int→Int→Prop
 |nil:Wk L to 0 to 0
 |step {k:Nat} {v w m d:Int}:(v,w,m)∈L→Wk L to k w d→Wk L to (k+1) v (m+d)
section
variable {L:List Lk} {N:Nat}
def Wk.snoc {u v m:Int} (hl:(u,v,m)∈L):∀{k:Nat} {s d:Int},Wk L u k s d→Wk L v (k+1) s (d+m):=by
 intro k s d h
 induction h with
 |nil =>
  have:=Wk.step hl (Wk.nil (L:=L) (to:=v))
  have e:m+0=0+m:=by omega
  rw[e] at this;exact this
 | @step k a w m' d h1 h2 ih =>
  have:=Wk.step h1 ih
  have e:m'+(d+m)=m'+d+m:=by omega
  rw[e] at this;exact this
def Wk.bd (hS:ja L N) {t:Int} {k:Nat} {s d:Int} (h:Wk L t k s d) : -(k*4503599627370496)≤d∧d≤k*4503599627370496:=by
 induction h with
 |nil=>omega
 | @step k v w m d h1 h2 ih =>
  have:=hS.most _ h1;dsimp only at this;push_cast;omega
def Xm {v:Int} (h0:0≤v) (h1:v<N):gv (List.replicate N Ŗ) v=Ŗ:=by
 unfold gv;rw[List.getElem?_replicate,if_pos (by omega)];rfl
def aeQ {B:Int} (hB:B≤1100000000000000000) {x:List Int} (hx:Lim B x) (v:Int):gv x v≤Ŗ:=by
 by_cases h:gv x v=Ŗ
 ·omega
 ·have:=hx v h; unfold Ŗ; omega
def D9 (hS:ja L N) {B:Int} (hB:0≤B) (hB2:B≤1000000000000000000) {x:List Int} (hx:Lim B x) {v:Int} (h0:0≤v) (h1:v<N) :
 ∀(M:List Lk),(∀l∈M,l∈L)→∀y:List Int,y.length=N→Lim (B+4503599627370496) y →
  gv (M.foldl (iQ x) y) v≤gv y v∧(∀w m,(v,w,m)∈M→gv x w≠Ŗ→gv (M.foldl (iQ x) y) v≤m+gv x w) ∧
  (gv (M.foldl (iQ x) y) v=gv y v∨∃w m,(v,w,m)∈M∧gv x w≠Ŗ∧gv (M.foldl (iQ x) y) v=m+gv x w)
 |[],_,y,_,_=>⟨dL _,fun _ _ h=>by simp at h,.inl rfl⟩
 |l::M,hM,y,hl,hy=>by
  rw[fG];have hlm:=hM l (by simp);obtain⟨i1,i2,i3⟩:=D9 hS hB hB2 hx h0 h1 M (fun m hm=>hM m (by simp[hm])) (iQ x y l) (by rw[Gc,hl]) (YJ hS hB hB2 hx hy hl hlm);have hr:=hS.inr l hlm;have hyF:=aeQ (by omega) hy
  -- the element behind one link
  have key:gv (iQ x y l) v≤gv y v∧(l.1=v→gv x l.2.1≠Ŗ→gv (iQ x y l) v≤l.2.2+gv x l.2.1)∧(gv (iQ x y l) v=gv y v∨(l.1=v∧gv x l.2.1≠Ŗ∧gv (iQ x y l) v=l.2.2+gv x l.2.1)):=by
   unfold iQ
   by_cases hf:gv x l.2.1=Ŗ
   ·rw[if_pos hf];exact⟨dL _,fun _ h=>absurd hf h,.inl rfl⟩
   ·rw[if_neg hf,rt hr.1.1 h0 (by omega)]
    by_cases hv:v=l.1
    ·rw[if_pos hv,hv];refine⟨by omega,fun _ _=>by omega,?_⟩
     by_cases hc:gv y l.1≤l.2.2+gv x l.2.1
     ·exact .inl (by omega)
     ·exact .inr ⟨rfl,hf,by omega⟩
    ·rw[if_neg hv];exact⟨dL _,fun h=>absurd h.symm hv,.inl rfl⟩
  obtain⟨k1,k2,k3⟩:=key;refine⟨by omega,fun w m hm hw=>?_,?_⟩
  ·rcases cH.1 hm with h|h
   ·subst h;have:=k2 rfl hw;dsimp only at this;omega
   ·exact i2 w m h hw
  ·rcases i3 with h|⟨w,m,h,hw,e⟩
   ·rcases k3 with h'|⟨h',hw,e⟩
    ·exact .inl (h.trans h')
    ·refine .inr ⟨l.2.1,l.2.2,?_,hw,h.trans e⟩;rw[←h']; simp
   ·exact .inr ⟨w,m,by simp[h],hw,e⟩
def RI (hS:ja L N) {to:Int} (ht:0≤to∧to<N):∀k:Nat,k≤200→∀v:Int,0≤v→v<N →
 (gv (exL L N to k) v≠Ŗ→Wk L to k v (gv (exL L N to k) v))∧∀d,Wk L to k v d→gv (exL L N to k) v≤d∧gv (exL L N to k) v≠Ŗ
 |0,_,v,h0,h1=>by
  unfold exL;rw[rt ht.1 h0 (by simp; omega)]
  by_cases hv:v=to
  ·subst hv;rw[if_pos rfl];refine⟨fun _=>.nil,fun d hd=>?_⟩;cases hd;exact⟨dL _,by decide⟩
  ·rw[if_neg hv,Xm h0 h1];refine⟨fun h=>absurd rfl h,fun d hd=>?_⟩;cases hd;exact absurd rfl hv
 |k+1,hk,v,h0,h1=>by
  have hlim:=BL hS ht k (by omega);obtain⟨i1,i2,i3⟩:=D9 hS (B:=k*4503599627370496) (by omega) (by omega) hlim h0 h1 L (fun _ h=>h) (List.replicate N Ŗ) (by simp) (La (by omega));have ih:=RI hS ht k (by omega);unfold exL Pd;refine⟨fun hf=>?_,fun d hd=>?_⟩
  ·rcases i3 with h|⟨w,m,h,hw,e⟩
   ·rw[Xm h0 h1] at h; exact absurd h hf
   ·rw[e];have hwr:=(hS.inr _ h).2;exact .step h ((ih w hwr.1 hwr.2).1 hw)
  ·have hb:=Wk.bd hS hd
   cases hd with
   | @step k' v' w m d h h2 =>
    have hwr:=(hS.inr _ h).2;obtain⟨j1,j2⟩:=(ih w hwr.1 hwr.2).2 d h2;have:=i2 w m h j2;refine⟨by omega,?_⟩
    have hq:(m+d)≤1000000000000000000:=by push_cast at hb; omega
    intro hF;rw[hF] at this;unfold Ŗ at this;omega
def afb (hS:ja L N) {to:Int} (ht:0≤to∧to<N) {k:Nat} (hk:k+1≤200) {u:Int} (hu:0≤u∧u<N) (hf:gv (exL L N to (k+1)) u≠Ŗ) :
 ∃w m,(u,w,m)∈L∧gv (exL L N to k) w≠Ŗ∧gv (exL L N to (k+1)) u=m+gv (exL L N to k) w:=by
 have hlim:=BL hS ht k (by omega);obtain⟨_,_,i3⟩:=D9 hS (B:=k*4503599627370496) (by omega) (by omega) hlim hu.1 hu.2 L (fun _ h=>h) (List.replicate N Ŗ) (by simp) (La (by omega));have e:exL L N to (k+1)=L.foldl (iQ (exL L N to k)) (List.replicate N Ŗ):=rfl;rw[e] at hf ⊢;rcases i3 with h|h
 ·rw[Xm hu.1 hu.2] at h; exact absurd h hf
 ·exact h
def Lz (hS:ja L N) {to:Int} (ht:0≤to∧to<N) (good:Int→Bool):∀(k:Nat),k≤200→∀(u sum:Int) (out:List Int),0≤u→u<N→gv (exL L N to k) u≠Ŗ→good (sum+gv (exL L N to k) u)=true →
 ∃q,nM L (exL L N to) good k u sum out=out++q∧q.length=k∧(∀i∈q,AJ L i=false)∧∃s,AO L u sum q=(to,s,true)∧good s=true
 |0,_,u,sum,out,h0,h1,hf,hg=>by
  have hu:u=to:=by
   have hw:=((RI hS ht 0 (by omega) u h0 h1).1 hf);generalize gv (exL L N to 0) u=y at hw;cases hw;rfl
  subst hu
  have e:gv (exL L N u 0) u=0:=by
   unfold exL;rw[rt ht.1 h0 (by simp; omega),if_pos rfl]
  rw[e,gA] at hg;exact⟨[],by simp[nM],rfl,by simp,sum,rfl,hg⟩
 |k+1,hk,u,sum,out,h0,h1,hf,hg=>by
  obtain⟨w,m,hl,hw,e⟩:=afb hS ht hk ⟨h0,h1⟩ hf;unfold nM PV
  cases hn:L.findIdx? (fun l=>l.1==u&&(decide (gv (exL L N to k) l.2.1≠Ŗ)&&good (sum+l.2.2+gv (exL L N to k) l.2.1))) with
  |none =>
   have:=dD.1 hn (u,w,m) hl;rw[e,←Int.add_assoc] at hg;simp[hw,hg] at this
  |some i =>
   obtain⟨hi,hp,_⟩:=List.findIdx?_eq_some_iff_getElem.1 hn;have hg2:L[i]?=some L[i]:=List.getElem?_eq_getElem hi;have hm:=List.mem_of_getElem? hg2;generalize L[i]=x at hp hg2 hm;simp only[Bool.and_eq_true,beq_iff_eq,decide_eq_true_eq] at hp;obtain⟨p1,p2,p3⟩:=hp;have hr:=(hS.inr x hm).2;obtain⟨q,q1,q2,q3,s,q4,q5⟩:=Lz hS ht good k (by omega) x.2.1 (sum+x.2.2) (out++[(i:Int)]) hr.1 hr.2 p2 p3;dsimp only;rw[hg2];simp only[Option.getD_some];refine⟨(i:Int)::q,by rw[q1]; simp,by simp[q2],fun j hj=>?_,s,?_,q5⟩
   ·rcases cH.1 hj with rfl|hj
    ·simp[AJ]; omega
    ·exact q3 j hj
   ·unfold AO;rw[Int.toNat_natCast,hg2];simp only[Option.getD_some];rw[if_pos p1];exact q4
def aeS {P:Int→Prop} {B:Int} (h:∃d,P d) (hB:∀d,P d→B≤d):∃d,P d∧∀e,P e→d≤e:=by
 obtain⟨d0,h0⟩:=h
 have:∀(n:Nat) (d:Int),P d→(d-B).toNat≤n→∃d,P d∧∀e,P e→d≤e:=by
  intro n
  induction n with
  |zero=>intro d hd hn; exact⟨d,hd,fun e he=>by have:=hB e he; have:=hB d hd; omega⟩
  |succ n ih =>
   intro d hd hn
   by_cases hx:∃e,P e∧e<d
   ·obtain⟨e,he,hl⟩:=hx;exact ih e he (by have:=hB e he; omega)
   ·exact⟨d,hd,fun e he=>by
     rcases gH e d with q|q
     ·exact absurd ⟨e,he,q⟩ hx
     ·exact q⟩
 exact this _ d0 h0 (cB _)
def Wl.cutK {S:Int→Prop} {vs:List Int} {u d:Int} (h:Wl L S vs u d):∀x∈u::vs,∃vs1 d1 k d2,Wl L S vs1 x d1∧(x::vs1) <:+ (u::vs)∧Wk L u k x d2∧d=d1+d2∧k≤vs.length:=by
 induction h with
 | @nil v hv =>
  intro x hx;simp at hx;subst hx;exact⟨[],0,0,0,.nil hv,List.suffix_refl _,.nil,by omega,by simp⟩
 | @step vs u v m d hw hl ih =>
  intro x hx;rcases cH.1 hx with rfl|hx
  ·exact⟨u::vs,d+m,0,0,.step hw hl,List.suffix_refl _,.nil,by omega,by simp⟩
  ·obtain⟨vs1,d1,k,d2,g1,g2,g3,g4,g5⟩:=ih x hx;exact⟨vs1,d1,k+1,d2+m,g1,g2.trans (List.suffix_cons _ _),g3.snoc hl,by omega,by simp; omega⟩
def Z3 (hS:ja L N) (hno:kj L N=false):∃(k:Nat) (v d:Int),1≤k∧k≤N∧(0≤v∧v<N)∧Wk L v k v d∧d<0:=by
 have hn:=hS.n60;apply Classical.byContradiction;intro hc
 have hcl:∀{k:Nat} {v d:Int},1≤k→k≤N→(0≤v∧v<N)→Wk L v k v d→0≤d:=fun {k v d} h1 h2 h3 h4=>by
  rcases gH d 0 with q|q
  ·exact absurd ⟨k,v,d,h1,h2,h3,h4,q⟩ hc
  ·exact q
 have hinr:∀l∈L,-4503599627370496≤l.2.2:=fun l hl=>(hS.most l hl).1
 let P:Int→Int→Prop:=fun v d=>∃vs,Wl L (fun u=>0≤u∧u<N) vs v d∧(v::vs).Nodup
 have hP:∀v:Int,0≤v∧v<N→∃d,P v d∧∀e,P v e→d≤e:=fun v hv=>aeS (B:=-(60*4503599627370496)) ⟨0,[],.nil hv,by simp⟩ (by
  rintro d ⟨vs,h1,h2⟩;have q1:=h1.lowM hinr;have q2:=h1.short hS.inr (fun w hw=>hw) h2
  have:((vs.length:Nat):Int)*4503599627370496≤60*4503599627370496:=by omega
  omega)
 have ho:kj L N=true:=by
  refine(ki hS.links (by omega)).2 ⟨fun v=>if hv:0≤v∧v<(N:Int) then Classical.choose (hP v hv) else 0,fun u v m hl=>?_⟩;have hr:=hS.inr _ hl;dsimp only at hr;obtain⟨⟨vs,hw,hnd⟩,hu2⟩:=Classical.choose_spec (hP u hr.1);obtain⟨_,hv2⟩:=Classical.choose_spec (hP v hr.2);have e1:(if hv:0≤u∧u<(N:Int) then Classical.choose (hP u hv) else 0)=Classical.choose (hP u hr.1):=dif_pos hr.1;have e2:(if hv:0≤v∧v<(N:Int) then Classical.choose (hP v hv) else 0)=Classical.choose (hP v hr.2):=dif_pos hr.2;dsimp only;rw[e1,e2];generalize Classical.choose (hP u hr.1)=a at *;generalize Classical.choose (hP v hr.2)=b at *
  by_cases hv:v∈u::vs
  ·obtain⟨vs1,d1,k,d2,g1,g2,g3,g4,g5⟩:=hw.cutK v hv;have hlen:=hw.short hS.inr (fun w hw=>hw) hnd;have:=hcl (by omega) (by omega) hr.2 (g3.snoc hl);have:=hv2 d1 ⟨vs1,g1,hnd.sublist g2.sublist⟩;omega
  ·have:=hv2 (a+m) ⟨u::vs,hw.step hl,eE.2 ⟨hv,hnd⟩⟩;omega
 rw[hno] at ho;cases ho
def kX (L:List Lk) (N:Nat) (k:Nat) (l:Lk):Bool:=decide (gv (exL L N l.1 k) l.2.1≠Ŗ)&&decide (l.2.2+gv (exL L N l.1 k) l.2.1<0)
def aaR (hS:ja L N) (hno:kj L N=false):∃k,k<N∧∃l∈L,kX L N k l=true:=by
 have hn:=hS.n60;obtain⟨k,v,d,h1,h2,h3,h4,h5⟩:=Z3 hS hno
 cases h4 with
 |nil=>omega
 | @step k v w m d hl hk =>
  have hr:=hS.inr _ hl;obtain⟨e1,e2⟩:=(RI hS h3 k (by omega) w hr.2.1 hr.2.2).2 d hk;refine⟨k,by omega,(v,w,m),hl,?_⟩;simp only[kX,cD,decide_eq_true_eq];exact⟨e2,by omega⟩
def Vd (hS:ja L N) {k:Nat} (hk:k<N) {l:Lk} (hl:l∈L) (hb:kX L N k l=true) :
 ∃q,nM L (exL L N l.1) (fun n=>ilt n 0) (k+1) l.1 0 []=q∧q.length=k+1∧(∀i∈q,AJ L i=false)∧ŕ L q=0∧∃u s,AO L u 0 q=(u,s,true)∧s<0:=by
 have hn:=hS.n60;have hr:=hS.inr _ hl;simp only[kX,cD,decide_eq_true_eq] at hb;have hlim:=BL hS hr.1 k (by omega);obtain⟨_,i2,_⟩:=D9 hS (B:=k*4503599627370496) (by omega) (by omega) hlim hr.1.1 hr.1.2 L (fun _ h=>h) (List.replicate N Ŗ) (by simp) (La (by omega));have h2:gv (exL L N l.1 (k+1)) l.1≤l.2.2+gv (exL L N l.1 k) l.2.1:=i2 l.2.1 l.2.2 hl hb.1
 have hne:gv (exL L N l.1 (k+1)) l.1≠Ŗ:=fun h=>by rw[h] at h2; unfold Ŗ at h2; omega
 obtain⟨q,q1,q2,q3,s,q4,q5⟩:=Lz hS hr.1 (fun n=>ilt n 0) (k+1) (by omega) l.1 0 [] hr.1.1 hr.1.2 hne (by rw[Int.zero_add]; exact decide_eq_true (by omega));rw[dN] at q1;have hs:s<0:=of_decide_eq_true q5;refine⟨q,q1,q2,q3,?_,l.1,s,q4,hs⟩
 have hany:q.any (AJ L)=false:=by
  rw[dG]
  exact fun i hi=>by rw[q3 i hi]; simp
 cases q with
 |nil=>simp at q2
 |cons i t =>
  have hi:=q3 i (by simp);simp only[AJ,gi,decide_eq_false_iff_not] at hi;have hg:L[i.toNat]?=some L[i.toNat]:=cA (by omega)
  have hfst:(L[i.toNat]?.getD (0,0,0)).1=l.1:=by
   unfold AO at q4
   by_cases h:(L[i.toNat]?.getD (0,0,0)).1=l.1
   ·exact h
   ·rw[if_neg h] at q4; simp at q4
  have hix:kK L (i::t)=0:=by
   unfold kK;rw[if_neg (by omega),hany];rfl
  unfold ŕ;rw[hix,if_neg (by simp)];dsimp only;rw[hfst,q4];unfold Zc;dsimp only;rw[if_pos ⟨rfl,rfl,hs⟩]
end
def X0 {L:List Lk} {p:Int→Int} (hp:Pot L p):∀(l:List Int) (u s:Int),(∀i∈l,0≤i∧i.toNat<L.length)→(AO L u s l).2.2=true→p (AO L u s l).1-p u≤(AO L u s l).2.1-s
 |[],u,s,_,_=>by simp[AO]
 |i::t,u,s,hi,hw=>by
  have hx:=hi i (by simp);have hg:L[i.toNat]?=some L[i.toNat]:=List.getElem?_eq_getElem hx.2;have hm:=List.mem_of_getElem? hg;generalize L[i.toNat]=x at hg hm;unfold AO at hw ⊢;rw[hg] at hw ⊢;simp only[Option.getD_some] at hw ⊢
  split at hw
  ·rename_i hc;rw[if_pos hc];have h1:=hp x.1 x.2.1 x.2.2 hm;have h2:=X0 hp t x.2.1 (s+x.2.2) (fun j hj=>hi j (by simp[hj])) hw;rw[hc] at h1;omega
  ·cases hw
section
variable {L:List Lk} {N:Nat}
def afj {ρ:Type} (c0:List (List Int)) (c6:List Lk):@xw ρ c0 c6=folM (fun n=>ilt n 0) c0 c6:=rfl
def wi (L:List Lk) (N:Nat):List (List (List Int)):=(List.range N).map fun(n:Nat)=>lD L N n N
def ZI {L:List Lk} {N n:Nat} (h:n<N):(wi L N)[n]?=some (lD L N n N):=by
 unfold wi;rw[List.getElem?_map,List.getElem?_range h];rfl
def VO {ρ:Type} (hS:ja L N) (K:List (List (List Int))→Option ρ) :
 Ê (fun(v56:Int×List (List (List Int))) kk59=>mU (Ø (List.replicate N ([]:(Val (.slice (.slice tI)))))) (N:Int) L v56.1 v56.2 (fun u57 u58=>kk59 (u57,u58)) K) ((0:Int),(List.replicate N ([]:(Val (.slice (.slice tI))))))=K (wi L N):=by
 have hN:=hS.n60;refine ģ (List.replicate N ()) (fun i=>((List.range i).map fun(n:Nat)=>lD L N n N)++List.replicate (N-i) ([]:List (List Int))) _ (by simp) (fun i a hi ha kn=>?_) (fun kn=>?_)
 ·try dsimp only
  unfold mU;rw[List.length_replicate] at hi;rw[Ò,List.length_replicate,Ù (decide_eq_true (by omega)),ae9 hS ⟨by omega,by omega⟩ (by omega),À]
  have hlen:(((List.range i).map fun(n:Nat)=>lD L N n N)++List.replicate (N-i) ([]:List (List Int))).length=N:=by simp; omega
  rw[show ñ (((List.range i).map fun(n:Nat)=>lD L N n N)++List.replicate (N-i) ([]:List (List Int)))=(N:Int) by unfold ñ; rw[hlen],ŵ (by omega) (by omega),Int.toNat_natCast]
  have hget:(((List.range i).map fun(n:Nat)=>lD L N n N)++List.replicate (N-i) ([]:List (List Int)))[i]?=some []:=by
   rw[fH (by simp),gD,if_pos (by simp; omega)]
  rw[iV hget,Ó (by omega) (by omega)];congr 2;rw[f7 _ _ (by simp),fE,ff]
  have e:N-i=(N-(i+1))+1:=by omega
  rw[e,fR];simp
 ·try dsimp only
  unfold mU;rw[Ò,List.length_replicate,List.length_replicate,Ì (decide_eq_false (by omega))];unfold wi;simp
def SN {ρ:Type} (hS:ja L N) {k:Nat} (hk:k<N) (k0:Unit→Option ρ) (k1:Int×List Int→Option ρ) (k2:Unit→Option ρ) :
 Ê (fun(v48:Int) kk50=>mT ((k:Int)+1) L (Ø L) (N:Int) L (wi L N) v48 (fun u49=>kk50 u49) k0 k1 k2) (0:Int) =
  match L.find? (kX L N k) with|some l=>k1 (0,nM L (exL L N l.1) (fun n=>ilt n 0) (k+1) l.1 0 [])|none=>k2 ():=by
 have hN:=hS.n60;have hl3:=hS.len;rw[RE];refine(jt L (kX L N k) (fun j=>match L[j.toNat]? with|some l=>k1 (0,nM L (exL L N l.1) (fun n=>ilt n 0) (k+1) l.1 0 [])|none=>k2 ()) (k2 ()) (fun i l hi hl kn=>?_) (fun kn=>?_)).trans ?_
 ·try dsimp only
  unfold mT;have hm:=List.mem_of_getElem? hl;have hr:=hS.inr l hm;have hmo:=hS.most l hm
  have hto:((l.1.toNat:Nat):Int)=l.1:=by omega
  have hg:(wi L N)[l.1.toNat]?=some (lD L N l.1 N):=by rw[ZI (by omega),hto]
  have hol:ñ (wi L N)=(N:Int):=by simp[ñ,wi]
  have hlim:=BL hS hr.1 k (by omega) l.2.1;rw[Ñ hi,È hl,hol,ŵ hr.1.1 hr.1.2,iV hg,show((k:Int)+1-1)=(k:Int) by omega,Ó (by omega) (by omega),È (Gb (by omega)),uZ hr.2.1 (by rw[Xq]; omega)];unfold kX
  by_cases h1:gv (exL L N l.1 k) l.2.1=Ŗ
  ·rw[Ù (beq_iff_eq.2 h1),Ë hi (by omega),if_neg (by simp[h1])]
  ·have hb:=hlim h1;rw[Ì (beq_eq_false_iff_ne.2 h1),Ó (by omega) (by omega)]
   by_cases h2:l.2.2+gv (exL L N l.1 k) l.2.1<0
   ·rw[Ì (decide_eq_false (by omega)),Ì (decide_eq_false (by omega)),ŵ hr.1.1 hr.1.2,iV hg,if_pos (by simp[h1,h2]),afj,cQ,hl];have hex:∀j,j<k+1→(lD L N l.1 N)[j]?=some (exL L N l.1 j):=fun j hj=>Gb (by omega)
    have hx:∀j,j<k+1→Lim 900000000000000000 (exL L N l.1 j)∧(exL L N l.1 j).length=N:=fun j hj=>⟨fun w hw=>by
     have:=BL hS hr.1 j (by omega) w hw; omega,Xq _ _⟩
    have:=ag0 hS (fun n=>ilt n 0) (rest:=lD L N l.1 N) (R:=exL L N l.1) (k0:=k+1) (by omega) hex hx l.1 (fun z=>k1 (0,z));rw[show(((k+1:Nat):Int))=(k:Int)+1 by push_cast; rfl] at this;exact this
   ·rw[Ù (decide_eq_true (by omega)),Ë hi (by omega),if_neg (by simp[h1,h2])]
 ·try dsimp only
  unfold mT;rw[ß]
 ·cases h:L.findIdx? (kX L N k) with
  |none=>rfl
  |some j=>dsimp only; rw[Int.toNat_natCast]
def ad7 (hS:ja L N) (hno:kj L N=false):∃(K:Nat) (l:Lk),K<N∧(∀k,k<K→∀x∈L,kX L N k x=false)∧L.find? (kX L N K)=some l∧nl ((N:Int),L)=some (nM L (exL L N l.1) (fun n=>ilt n 0) (K+1) l.1 0 [],0):=by
 have hN:=hS.n60;obtain⟨K0,hK0,l0,hl0,hb0⟩:=aaR hS hno
 -- the first number of links
 have hex:∃K,K≤K0∧(∃l∈L,kX L N K l=true)∧∀k,k<K→∀x∈L,kX L N k x=false:=by
  have:∀n:Nat,(∀k,k<n→∀x∈L,kX L N k x=false)∨∃K,K<n∧(∃l∈L,kX L N K l=true)∧∀k,k<K→∀x∈L,kX L N k x=false:=by
   intro n
   induction n with
   |zero=>exact .inl fun k hk=>by omega
   |succ n ih =>
    rcases ih with h|⟨K,h1,h2⟩
    ·by_cases hx:∃l∈L,kX L N n l=true
     ·exact .inr ⟨n,by omega,hx,h⟩
     ·refine .inl fun k hk x hxm=>?_;rcases fW (Nat.le_of_lt_succ hk) with h1|rfl
      ·exact h k h1 x hxm
      ·exact dW.2 fun e=>hx ⟨x,hxm,e⟩
    ·exact .inr ⟨K,by omega,h2⟩
  rcases this (K0+1) with h|⟨K,h1,h2,h3⟩
  ·have:=h K0 (by omega) l0 hl0;rw[hb0] at this; cases this
  ·exact⟨K,by omega,h2,h3⟩
 obtain⟨K,hK,⟨l1,hl1,hb1⟩,hfirst⟩:=hex
 obtain⟨l,hl⟩:∃l,L.find? (kX L N K)=some l:=by
  cases h:L.find? (kX L N K) with
  |none=>have:=dQ.1 h l1 hl1; exact absurd hb1 this
  |some l=>exact⟨l,rfl⟩
 refine⟨K,l,by omega,hfirst,hl,?_⟩;unfold nl Di;rw[kZ hS,À,Ì (by rfl),tT hS.links hS.n1 (by omega),À,if_neg (by simp[hno]),Ì (by rfl),okN (by omega),Int.toNat_natCast];refine(VO hS _).trans ?_;refine Ę (fun v=>∃k:Nat,k≤K∧v=(k:Int)+1) (fun v=>(K+2)-v.toNat) ?_ ⟨0,by omega,rfl⟩;rintro v ⟨k,hk,rfl⟩;rcases Nat.lt_or_eq_of_le hk with h|rfl
 ·refine .inr ⟨((k+1:Nat):Int)+1,⟨k+1,h,rfl⟩,by omega,fun kn=>?_⟩;unfold qV;refine(SN hS (by omega) _ _ _).trans ?_
  have hnone:L.find? (kX L N k)=none:=dQ.2 fun x hx=>by rw[hfirst k h x hx]; simp
  rw[hnone];dsimp only;rw[Ó (by omega) (by omega)];congr 1
 ·refine .inl fun kn=>?_;unfold qV;refine(SN hS (by omega) _ _ _).trans ?_;rw[hl]
end
def abp (L:List Lk) (N:Nat):List (Int×Int):=(List.range N).map fun(n:Nat)=>(-(dst L N n 0),dst L N 0 n)
section
variable {L:List Lk} {N:Nat}
def ZL {n:Nat} (h:n<N):(abp L N)[n]?=some (-(dst L N n 0),dst L N 0 n):=by
 unfold abp;rw[List.getElem?_map,List.getElem?_range h];rfl
def afI (hS:ja L N) (ht:XO L N) (ho:kj L N=true):tF ((N:Int),L)=some (abp L N,0):=by
 have hN:=hS.n60;have hN1:=hS.n1;unfold tF Ko;rw[afF hS (fun n hn=>by simp at hn) (by simp),À,if_pos ho,Ì (by rfl),Vn hS.links hS.n1 (by omega) ho ⟨by omega,by omega⟩,À,okN (by omega),Int.toNat_natCast];have hlen0:(ya L N 0).length=N:=L8 0;refine ģ (List.replicate N ()) (fun i=>((List.range i).map fun(n:Nat)=>dst L N n 0)++List.replicate (N-i) (0:Int)) _ (by simp) (fun i a hi ha kn=>?_) (fun kn=>?_)
 ·try dsimp only
  unfold qU;rw[List.length_replicate] at hi;rw[Ò,List.length_replicate,Ù (decide_eq_true (by omega)),Vn hS.links hS.n1 (by omega) ho ⟨by omega,by omega⟩,À,uZ (by omega) (by rw[L8]; simp; omega)]
  have hlen:(((List.range i).map fun(n:Nat)=>dst L N n 0)++List.replicate (N-i) (0:Int)).length=N:=by simp; omega
  rw[show ñ (((List.range i).map fun(n:Nat)=>dst L N n 0)++List.replicate (N-i) (0:Int))=(N:Int) by unfold ñ; rw[hlen],ŵ (by omega) (by omega),Int.toNat_natCast]
  have hget:(((List.range i).map fun(n:Nat)=>dst L N n 0)++List.replicate (N-i) (0:Int))[i]?=some 0:=by
   rw[fH (by simp),gD,if_pos (by simp; omega)]
  rw[iV hget,Ó (by omega) (by omega)];congr 2;rw[f7 _ _ (by simp),fE,ff]
  have e:N-i=(N-(i+1))+1:=by omega
  rw[e,fR];simp[dst]
 ·try dsimp only
  unfold qU;rw[Ò,List.length_replicate,List.length_replicate,Ì (decide_eq_false (by omega))]
  have e0:((List.range N).map fun(n:Nat)=>dst L N n 0)++List.replicate (N-N) (0:Int)=(List.range N).map fun(n:Nat)=>dst L N n 0:=by simp
  rw[e0];refine ģ (List.replicate N ()) (fun i=>(List.range i).map fun(n:Nat)=>(-(dst L N n 0),dst L N 0 n)) _ (by simp) (fun i a hi ha kn=>?_) (fun kn=>?_)
  ·try dsimp only
   unfold qT;rw[List.length_replicate] at hi
   have hget:((List.range N).map fun(n:Nat)=>dst L N n 0)[i]?=some (dst L N i 0):=by
    rw[eA,fS hi]; rfl
   have hb:=dst_bd hS ht ho (s:=(i:Int)) (t:=0) ⟨by omega,by omega⟩ ⟨by omega,by omega⟩;rw[Ò,hlen0,Ù (decide_eq_true (by omega)),show ñ ((List.range N).map fun(n:Nat)=>dst L N n 0)=(N:Int) by simp[ñ],ŵ (by omega) (by omega),cQ,iV hget,Ó (by omega) (by omega),uZ (by omega) (by rw[hlen0]; simp; omega),Đ (Û (by simp only[dz,fJ,dC]; omega)),Ó (by omega) (by omega),Int.zero_sub];congr 2;rw[fE,ff];rfl
  ·try dsimp only
   unfold qT;rw[Ò,hlen0,List.length_replicate,Ì (decide_eq_false (by omega))];rfl
end
abbrev nT (m:ő) (w:Way):Nat:=(Ú (trP m w)).length+1
abbrev sT (m:ő) (w:Way):List Lk:=iN (trP m w)
def AG (L:List Lk) (N:Nat):List Int:=((nl ((N:Int),L)).getD ([],0)).1
def Ve {L:List Lk} {N:Nat} (hS:ja L N) (hno:kj L N=false):nl ((N:Int),L)=some (AG L N,0)∧ŕ L (AG L N)=0∧(AG L N).length≤N:=by
 obtain⟨K,l,h1,_,h3,h4⟩:=ad7 hS hno;obtain⟨q,q1,q2,_,q4,_⟩:=Vd hS h1 (fc h3) (fF h3)
 have e:AG L N=q:=by unfold AG; rw[h4,q1]; rfl
 rw[e];exact⟨by rw[h4,q1],q4,by omega⟩
section
variable {m:ő} {w:Way} {ρ:Type}
def X9 (n:Nat):(((n:Int)+1,iN (trP m w)):Sys)=(((n+1:Nat):Int),iN (trP m w)):=by simp
def Zw (m:ő):List (List Int)×Int:=if Ļ m≠0 then([],Ļ m) else if nV m then([],5) else((ĝ m.2).map fun w=>AG (sT m w) (nT m w),0)
def afL (hs:In m.1) (hn:m.2.length≤1000):Eg m=some (Zw m):=by
 unfold Eg J0 Zw;rw[mw hs hn,À]
 by_cases hc:Ļ m=0
 ·have h:=(ň m).1 hc;have hl2:=pZ h;have hm:((((m.1.1.1,m.1.1.2),m.1.2.1,m.1.2.2.1,m.1.2.2.2.1,m.1.2.2.2.2.1,m.1.2.2.2.2.2),m.2):ő)=m:=rfl;rw[Ì (by simp[ine,hc]),if_neg (by simp[hc]),IP h,À];refine K9 (ĝ m.2) (fun i=>((ĝ m.2).take i).map fun w=>AG (sT m w) (nT m w)) _ (fun i=>∀w∈(ĝ m.2).take i,nN m w=false) rfl (fun w hw=>by simp at hw) (fun i x hi hx hp kn=>?_) (fun hp kn=>?_)
  ·try dsimp only
   unfold qJ;have hg:=wg h (oR hx);rw[Ñ hi,È hx,hm,mA h (oR hx),À,Mh h (oR hx),À];dsimp only;rw[X9]
   cases he:nN m x with
   |true =>
    refine .inl ?_;rw[aaD hg.sys he,À];have:nV m=true:=dj.2 ⟨x,cI hx,he⟩;rw[this]; rfl
   |false =>
    refine .inr ⟨fun w hw=>?_,?_⟩
    ·rw[take_succ hx] at hw;rcases cG.1 hw with hw|hw
     ·exact hp w hw
     ·rw[cM.1 hw]; exact he
    ·rw[(Ve hg.sys he).1,À,Ì (by rfl),Đ (Û (by simp; omega)),Ë hi (by omega),take_succ hx,ff]; rfl
  ·rw[fA] at hp
   try dsimp only
   unfold qJ
   have:nV m=false:=dG.2 fun w hw=>by rw[show nN m w=false from hp w hw]; simp
   rw[ß,fA,this]; rfl
 ·rw[Ù (by simp[ine,hc]),if_pos hc]
def vr (m:ő) (chains:List (List Int)):Bool:=(List.range (ĝ m.2).length).all fun i=>match (ĝ m.2)[i]?,chains[i]? with|some w,some c=>decide (ŕ (sT m w) c=0)|_,_=>false
def mi (m:ő) (chains:List (List Int)):Int:=if Ļ m≠0 then Ļ m else if chains.length≠(ĝ m.2).length then 8 else if vr m chains then 0 else 8
def EF (hs:In m.1) (hn:m.2.length≤1000) (chains:List (List Int)):ju m chains=some (mi m chains):=by
 unfold ju rL mi;rw[mw hs hn,À]
 by_cases hc:Ļ m=0
 ·have h:=(ň m).1 hc;have hl2:=pZ h;have hm:((((m.1.1.1,m.1.1.2),m.1.2.1,m.1.2.2.1,m.1.2.2.2.1,m.1.2.2.2.2.1,m.1.2.2.2.2.2),m.2):ő)=m:=rfl;rw[Ì (by simp[ine,hc]),if_neg (by simp[hc]),IP h,À]
  by_cases hl:chains.length=(ĝ m.2).length
  ·rw[Ì (by simp[ine,Ò]; omega),if_neg (by simp[hl])];refine eh (YI (ĝ m.2).length (fun i=>match (ĝ m.2)[i]?,chains[i]? with|some w,some c=>decide (ŕ (sT m w) c=0)|_,_=>false) (some 8) (some 0) (fun i hi kn=>?_) (fun kn=>?_)) ?_
   ·have hx:(ĝ m.2)[i]?=some (ĝ m.2)[i]:=cA hi;have hx2:chains[i]?=some chains[i]:=cA (by omega)
    try dsimp only
    unfold iY;rw[Ñ hi,È hx,hm,mA h (oR hx),À,Mh h (oR hx),À,È hx2];dsimp only;rw[X9,N3 (wg h (oR hx)).sys,À,hx,hx2,Č,Ë hi (by omega)];dsimp only
    by_cases he:ŕ (sT m (ĝ m.2)[i]) chains[i]=0
    ·rw[if_neg (by simp[ine,he]),if_pos (by simpa using he)]
    ·rw[if_pos (by simp[ine,he]),if_neg (by simpa using he)]
   ·try dsimp only
    unfold iY;rw[ß]
   ·unfold vr
    cases(List.range (ĝ m.2).length).all fun i=>match (ĝ m.2)[i]?,chains[i]? with|some w,some c=>decide (ŕ (sT m w) c=0)|_,_=>false<;>rfl
  ·rw[Ù (by simp[ine,Ò]; omega),if_pos hl]
 ·rw[Ù (by simp[ine,hc]),if_pos hc]
def XN (m:ő) (w:Way):Int×Int:=if nq m w≠0 then(0,nq m w) else(oD m.2 w,0)
def aaS (hs:In m.1) (hn:m.2.length≤1000) (hw:∀l∈w,l.length≤100000):yE m w=some (XN m w):=by
 unfold yE Fq XN;rw[EB hs hn hw,À]
 by_cases hc:nq m w=0
 ·obtain⟨h,ho⟩:=mg.1 hc;rw[Ì (by simp[ine,hc]),if_neg (by simp[hc]),h.wgt ho]; rfl
 ·rw[Ù (by simp[ine,hc]),if_pos hc]
def Gs (m:ő) (w:Way):Ğ×Int:=if nq m w≠0 then(adN,nq m w) else(trP m w,0)
def Vv (hs:In m.1) (hn:m.2.length≤1000) (hw:∀l∈w,l.length≤100000):ov m w=some (Gs m w):=by
 unfold ov uh Gs;rw[EB hs hn hw,À]
 by_cases hc:nq m w=0
 ·obtain⟨h,ho⟩:=mg.1 hc;rw[Ì (by simp[ine,hc]),if_neg (by simp[hc]),mA h ho]; rfl
 ·rw[Ù (by simp[ine,hc]),if_pos hc]; rfl
def ahr (m:ő) (w:Way) (x d:Int):Int×Int:=if nq m w≠0 then(0,nq m w) else if kI m.1 x d≠0 then(0,kI m.1 x d) else(gM m.2 w x d,0)
def XM (hs:In m.1) (hn:m.2.length≤1000) (hw:∀l∈w,l.length≤100000) (x d:Int):mc m w x d=some (ahr m w x d):=by
 unfold mc Wy ahr;rw[EB hs hn hw,À]
 by_cases hc:nq m w=0
 ·obtain⟨h,ho⟩:=mg.1 hc;rw[Ì (by simp[ine,hc]),if_neg (by simp[hc]),Ix hs.size.gauges,À]
  by_cases hk:kI m.1 x d=0
  ·rw[Ì (by simp[ine,hk]),if_neg (by simp[hk]),h.who ho]; rfl
  ·rw[Ù (by simp[ine,hk]),if_pos hk]
 ·rw[Ù (by simp[ine,hc]),if_pos hc]
def acw:∀{ms:List Mx} {w:Way} (Q:Int→Prop) {d:Int},Ĩ ms w→(∀m∈ms,m.1<d→∀x∈m.2,Q x)→∀{x:Int},Q x→Q (Xd ms w x d)
 |[],[],Q,d,_,_,x,hx=>hx
 |m::ms,l::ls,Q,d,h,hm,x,hx=>by
  rw[Xd];refine acw Q h.2 (fun y hy=>hm y (cZ _ hy)) ?_;rcases VS (d:=d) (m:=(m.1,l)) (l:=m.2) h.1.symm x with e|⟨e1,_,e2⟩
  ·rw[e]; exact hx
  ·exact hm m (by simp) e1 _ (h.1.subset e2)
def DT (b:Ğ) (x:Int):Prop:=∃g,þ b x=some g
def uX {b:Ğ} {x d:Int}:kI b x d=0↔(0≤d∧d≤20000)∧DT b x:=by
 unfold kI DT;rw[←Option.isSome_iff_exists]
 cases hd:LQ d with
 |false =>
  simp only[eZ,if_true];simp only[LQ,inP,f6,decide_eq_false_iff_not] at hd;constructor
  ·intro e; cases e
  ·rintro⟨e,_⟩; omega
 |true =>
  simp only[LQ,inP,cD,decide_eq_true_eq] at hd
  cases þ b x<;>simp[hd]
def MOk.whoK (h:MOk m) (hw:Ĩ m.2 w) {d x:Int} (hx:DT m.1 x):DT m.1 (gM m.2 w x d) :=
 VJ (DT m.1) hw (fun y hy _ z hz=>let ⟨g,e,_⟩:=(h.mix hy).known z hz; ⟨g,e⟩) hx
def MOk.labK (h:MOk m) (hw:Ĩ m.2 w) {d x:Int} (hx:DT m.1 x):DT m.1 (Xd m.2 w x d) :=
 acw (DT m.1) hw (fun y hy _ z hz=>let ⟨g,e,_⟩:=(h.mix hy).known z hz; ⟨g,e⟩) hx
def Vo (m:ő) (w:Way) (d:Int) (l:List õ):List (Int×Int):=l.foldl (fun M g=>Mn (k:=tI) (v:=tI) (gM m.2 w g.1 d) g.1 M) []
def afz (m:ő) (w:Way) (d x:Int) (l:List õ):oW (k:=tI) (v:=tI) x (Vo m w d l)=(l.reverse.find? fun g=>gM m.2 w g.1 d==x).map fun g=>g.1:=by
 have key:∀r:List õ,oW (k:=tI) (v:=tI) x (Vo m w d r.reverse)=(r.find? fun g=>gM m.2 w g.1 d==x).map fun g=>g.1:=by
  intro r
  induction r with
  |nil=>rfl
  |cons g r ih =>
   rw[List.reverse_cons,Vo,List.foldl_append];simp only[fG,List.foldl_nil];rw[E5,fi]
   by_cases h:x=gM m.2 w g.1 d
   ·subst h; simp
   ·have:(gM m.2 w g.1 d==x)=false:=by simp; exact fun e=>h e.symm
    rw[if_neg h,this];exact ih
 have:=key l.reverse
 rwa [List.reverse_reverse] at this
def afy (h:MOk m) (hw:Ĩ m.2 w) {d x:Int} (hx:DT m.1 x):oW (k:=tI) (v:=tI) x (Vo m w d m.1.2.1)=some (Xd m.2 w x d):=by
 rw[afz]
 have hp:∀g:õ,gM m.2 w g.1 d=x→g.1=Xd m.2 w x d:=fun g e=>by rw[←e,Ld hw h.nd]
 obtain⟨g,hg⟩:=h.labK hw (d:=d) hx;obtain⟨g1,g2⟩:=gO hg
 cases hf:m.1.2.1.reverse.find? (fun g=>gM m.2 w g.1 d==x) with
 |none =>
  have:=(dQ.1 hf) g (List.mem_reverse.2 g1);rw[g2,Pr hw h.nd] at this;simp at this
 |some y =>
  have:=fF hf;rw[dB,hp y (by simpa using this)]
def Zx (m:ő) (w:Way) (x d:Int):Int×Int:=if nq m w≠0 then(0,nq m w) else if kI m.1 x d≠0 then(0,kI m.1 x d) else(Xd m.2 w x d,0)
def Vy (hs:In m.1) (hn:m.2.length≤1000) (hw:∀l∈w,l.length≤100000) (x d:Int):ο m w x d=some (Zx m w x d):=by
 unfold ο J4 Zx;rw[EB hs hn hw,À]
 by_cases hc:nq m w=0
 ·obtain⟨h,ho⟩:=mg.1 hc;rw[Ì (by simp[ine,hc]),if_neg (by simp[hc]),Ix hs.size.gauges,À]
  by_cases hk:kI m.1 x d=0
  ·have hb:Ee m w d=some (Vo m w d m.1.2.1):=by
    have hG:=hs.size.gauges;unfold Ee JV;refine ģ m.1.2.1 (fun i=>Vo m w d (m.1.2.1.take i)) _ rfl (fun i g hi hg kn=>?_) (fun kn=>?_)
    ·try dsimp only
     unfold qE;rw[Ñ hi,È hg,show((((m.1.1.1,m.1.1.2),m.1.2.1,m.1.2.2.1,m.1.2.2.2.1,m.1.2.2.2.2.1,m.1.2.2.2.2.2),m.2):ő)=m from rfl,h.who ho,À,Ë hi (by omega),take_succ hg,Vo,Vo,List.foldl_append];rfl
    ·try dsimp only
     unfold qE;rw[ß,List.take_length]
   rw[Ì (by simp[ine,hk]),if_neg (by simp[hk]),hb,À];unfold Iw;rw[afy h ho (uX.1 hk).2]
  ·rw[Ù (by simp[ine,hk]),if_pos hk]
 ·rw[Ù (by simp[ine,hc]),if_pos hc]
def Lc (b:Ğ) (n:Int×Int):(Int×Int)×Int:=if (yV b n).2≠0 then((0,0),(yV b n).2) else(ivR (yV b n).1 n,0)
def abj {b:Ğ} (h:Room b) {n:Int×Int} (e:(yV b n).2=0):Room (yV b n).1∧Zz (yV b n).1 n:=by
 rcases abk e with⟨h1,h2⟩|⟨h1,h2,_⟩
 ·rw[h1];exact⟨h,(Rw h.good).1 h2⟩
 ·rw[h1];refine⟨⟨h2,?_,h.num⟩,aci n h2⟩;obtain⟨f,z,hh⟩:=(Tt h.good).1 h.op;exact(Tt h2).2 ⟨f,z,acj.2 hh⟩
def Lb {B:Ğ} (h:Room B) {n:Int×Int} (hn:Zz B n) (K:(Int×Int)×Int→Option ρ) :
 (Ã (pL B n) fun r3=>Ã (il B) fun r4=>Ã (tF r4.1) fun r5=>ifb (ine r5.2 (0:Int)) (K (((0:Int),(0:Int)),r5.2)) (Ċ r5.1 r3.1 fun e6=>K (e6,(0:Int))))=K (ivR B n,0):=by
 have hI:In B:=⟨h.good.size,h.num⟩;have hi:=(Rw h.good).2 hn;have hr:=agV B n;have hsp:=afI h.good.sys h.good.tied h.op;rw[Mk hI,À,Mj,if_neg (by simp[(ψ _).2 h.good]),if_neg hi,Vw hI,À,Sh,if_neg (by simp[(ψ _).2 h.good])];dsimp only;rw[show((((Ú B).length:Int)+1,iN B):Sys)=((((Ú B).length+1:Nat):Int),iN B) by simp,hsp,À,Ì (by rfl)];obtain⟨k,hk⟩:∃k:Nat,VG B n.1 n.2=k:=⟨(VG B n.1 n.2).toNat,by omega⟩;rw[hk,È (ZL (by omega))];unfold ivR dstR;rw[hk]
def act {b:Ğ} (h:Room b) (n:Int×Int):yD b n=some (Lc b n):=by
 have hI:In b:=⟨h.good.size,h.num⟩;have hc:=(ψ _).2 h.good;unfold yD Fg Lc;rw[Mk hI,À]
 by_cases hi:VG b n.1 n.2=0
 ·have e1:(Mj b n).2=5:=by unfold Mj; rw[if_neg (by simp[hc]),if_pos hi]
  rw[Ù (by simp[ine,e1]),ahs hI,À,aht,if_neg (by simp[hc])]
  by_cases h2:ű (rW b n)=0
  ·have e:yV b n=(rW b n,0):=by unfold yV; rw[if_neg (by simp[hi]),if_neg (by simp[h2])]
   obtain⟨r1,r2⟩:=abj h (n:=n) (by rw[e]);rw[e] at r1 r2;rw[if_neg (by simp[h2]),Ì (by rfl),Lb r1 r2,e,if_neg (by simp)]
  ·have e:yV b n=(adN,ű (rW b n)):=by unfold yV; rw[if_neg (by simp[hi]),if_pos h2]
   rw[if_pos h2,Ù (by simp[ine,h2]),e,if_pos h2]
 ·have e1:(Mj b n).2=0:=by unfold Mj; rw[if_neg (by simp[hc]),if_neg hi]
  have e:yV b n=(b,0):=by unfold yV; rw[if_pos hi]
  rw[Ì (by simp[ine,e1]),←Mk hI,Lb h ((Rw h.good).1 hi),e,if_neg (by simp)]
def acN {α β:Type} {f:α→Option β}:∀{l:List α} {i:Nat} {x:α} {e:β},l[i]?=some x→(∀w∈l.take i,f w=none)→f x=some e→l.findSome? f=some e
 |[],_,_,_,h,_,_=>by simp at h
 |y::l,0,x,e,h,_,he=>by simp at h; subst h; rw[gq,he]
 |y::l,i+1,x,e,h,hp,he=>by
  rw[gq,hp y (by simp)];exact acN (by simpa using h) (fun w hw=>hp w (by simp[hw])) he
abbrev Fnd:=List (Int×(Int×Int))
def hullP (s t:Int×Int):Int×Int:=(min s.1 t.1,max s.2 t.2)
def ag2 (m:ő) (label d:Int) (M:Fnd) (w:Way):Fnd :=
 Mn (k:=tI) (v:=Ä) (gM m.2 w label d) (match oW (k:=tI) (v:=Ä) (gM m.2 w label d) M with|some s=>hullP (Lc (trP m w) (gM m.2 w label d,d)).1 s|none=>(Lc (trP m w) (gM m.2 w label d,d)).1) M
def D7 (m:ő) (label d:Int) (l:List Way):Fnd:=l.foldl (ag2 m label d) []
def aeg (m:ő) (label d:Int) (w:Way):Int:=(Lc (trP m w) (gM m.2 w label d,d)).2
def XR (m:ő) (label d:Int):List (Int×Int×Int)×Int :=
 if Ļ m≠0 then([],Ļ m) else if kI m.1 label d≠0 then([],kI m.1 label d) else if sa m=[] then([],5) else
 match (sa m).findSome? fun w=>aau (aeg m label d w) with
 |some e=>([],e)
 |none=>(m.1.2.1.filterMap fun g=>(oW (k:=tI) (v:=Ä) g.1 (D7 m label d (sa m))).map fun s=>(g.1,s),0)
def YU (hw:w∈sa m):Ĩ m.2 w∧nN m w=true:=by
 obtain⟨h1,h2⟩:=dS.1 hw;exact⟨mz.1 h1,h2⟩
def ae2 (h:MOk m):(sa m).length≤150:=cT (dY _ _) (pZ h)
def agD (h:MOk m) (hw:Ĩ m.2 w) (he:nN m w=true):Room (trP m w):=⟨wg h hw,he,h.in_.num⟩
def ad5 (hs:In m.1) (hn:m.2.length≤1000) (label d:Int):yF m label d=some (XR m label d):=by
 unfold yF Fu XR;rw[mw hs hn,À]
 by_cases hc:Ļ m=0
 ·have h:=(ň m).1 hc;have hG:=hs.size.gauges;have hgl:=ae2 h;rw[Ì (by simp[ine,hc]),if_neg (by simp[hc]),Ix hG,À]
  by_cases hk:kI m.1 label d=0
  ·rw[Ì (by simp[ine,hk]),if_neg (by simp[hk]),acG h,À]
   by_cases hnil:sa m=[]
   ·rw[Ù (by simp[ieq,Ò,hnil]),if_pos hnil]
   ·have:(sa m).length≠0:=fun e=>hnil (cR.1 e);rw[Ì (by simp[ieq,Ò,hnil]),if_neg hnil];have key:∀(l:List Way),(∀w∈l,aau (aeg m label d w)=none)→l.findSome? (fun w=>aau (aeg m label d w))=none:=fun l hl=>List.findSome?_eq_none_iff.2 hl;refine K9 (sa m) (fun i=>D7 m label d ((sa m).take i)) _ (fun i=>∀w∈(sa m).take i,aau (aeg m label d w)=none) rfl (fun w hw=>by simp at hw) (fun i x hi hx hp kn=>?_) (fun hp kn=>?_)
    ·obtain⟨x1,x2⟩:=YU (cI hx);have hroom:=agD h x1 x2
     try dsimp only
     unfold oj;rw[Ñ hi,È hx,show((((m.1.1.1,m.1.1.2),m.1.2.1,m.1.2.2.1,m.1.2.2.2.1,m.1.2.2.2.2.1,m.1.2.2.2.2.2),m.2):ő)=m from rfl,h.who x1,À,mA h x1,À,act hroom,À]
     by_cases he:aeg m label d x=0
     ·refine .inr ⟨fun w hw=>?_,?_⟩
      ·rw[take_succ hx] at hw;rcases cG.1 hw with hw|hw
       ·exact hp w hw
       ·rw[cM.1 hw,he]; rfl
      ·unfold aeg at he
       have hst:D7 m label d ((sa m).take (i+1))=ag2 m label d (D7 m label d ((sa m).take i)) x:=by rw[take_succ hx,D7,List.foldl_append]; rfl
       rw[Ì (by simp[ine,he]),hst];unfold ag2 Iw
       cases oW (k:=tI) (v:=Ä) (gM m.2 x label d) (D7 m label d ((sa m).take i)) with
       |none=>dsimp only; rw[Ë hi (by omega)]
       |some s =>
        dsimp only;rw[Ë hi (by omega),Xi,acC]; rfl
     ·refine .inl ?_
      have hfs:(sa m).findSome? (fun w=>aau (aeg m label d w))=some (aeg m label d x):=by
       exact acN hx hp (by simp[aau,he])
      rw[hfs];unfold aeg at he ⊢;rw[Ù (by simp[ine,he])]
    ·rw[fA] at hp
     try dsimp only
     unfold oj;rw[ß,key _ hp,List.take_length];dsimp only;refine ģ m.1.2.1 (fun i=>(m.1.2.1.take i).filterMap fun g=>(oW (k:=tI) (v:=Ä) g.1 (D7 m label d (sa m))).map fun s=>(g.1,s)) _ rfl (fun i g hi hg kn'=>?_) (fun kn'=>?_)
     ·try dsimp only
      unfold oi;have hle:((m.1.2.1.take i).filterMap fun g=>(oW (k:=tI) (v:=Ä) g.1 (D7 m label d (sa m))).map fun s=>(g.1,s)).length≤1000:=Nat.le_trans (List.length_filterMap_le _ _) (by rw[List.length_take]; omega);rw[Ñ hi,È hg,take_succ hg,List.filterMap_append];unfold Iw
      cases hmg:oW (k:=tI) (v:=Ä) g.1 (D7 m label d (sa m)) with
      |none=>simp only[List.filterMap_cons,hmg,Option.map_none,List.filterMap_nil,cY]; rw[Ë hi (by omega)]
      |some s =>
       simp only[List.filterMap_cons,hmg,dB,List.filterMap_nil];rw[Đ (Û (by rw[dC]; omega)),Ë hi (by omega)]
     ·try dsimp only
      unfold oi;rw[ß,List.take_length]
  ·rw[Ù (by simp[ine,hk]),if_pos hk]
 ·rw[Ù (by simp[ine,hc]),if_pos hc]
end
def acd {ρ α:Type} [DecidableEq α] {l m:List α} (hl:l.length=m.length) (K:Bool→Option ρ) {f:Int→(Int→Option ρ)→Option ρ}
 (h:∀(i:Nat) (a b:α),i<l.length→l[i]?=some a→m[i]?=some b→∀kn,f i kn=if a=b then kn ((i:Int)+1) else K false) (hn:∀kn,f l.length kn=K true):Ê f 0=K (decide (l=m)):=by
 refine eh (jZ l (fun i a=>if m[i]?=some a then none else some false) K (K true) (fun i a hi ha kn=>?_) hn) ?_
 ·have hm:m[i]?=some m[i]:=cA (by omega);rw[h i a _ hi ha hm,hm]
  by_cases he:a=m[i]
  ·simp[he]
  ·have:¬m[i]=a:=fun e=>he e.symm;simp[he,this]
 ·cases h:ķ (fun i a=>if m[i]?=some a then none else some false) 0 l with
  |none=>simp[I2 hl h]
  |some b =>
   obtain⟨h1,h2⟩:=I1 h;simp[h1,h2]
def aaU {a b:Way} (hn:a.length≤1000000) (hl:∀l∈a,l.length≤1000000):rB a b=some (decide (a=b)):=by
 unfold rB xi;rw[Ò,Ò]
 by_cases he:a.length=b.length
 ·rw[Ì (by simp[ine,he])];refine acd he some (fun i x y hi hx hy kn=>?_) (fun kn=>?_)
  ·try dsimp only
   unfold kF;rw[Ñ hi,È hx,È hy,BX (hl x (List.mem_of_getElem? hx)),À,Ë hi (by omega),Č]
   by_cases h:x=y<;>simp[h]
  ·try dsimp only
   unfold kF;rw[ß]
 ·rw[Ù (by simp[ine]; omega)];have:a≠b:=fun e=>he (by rw[e]);simp[this]
def adj {L:List Lk} {p:Int→Int} (hp:Pot L p) (c:List Int):ŕ L c≠0:=by
 unfold ŕ
 by_cases h2:kK L c=0
 case neg=>rw[if_pos h2]; exact h2
 rw[if_neg (by simp[h2])];have hi:=(Xk h2).2
 cases c with
 |nil=>exact(by decide:(8:Int)≠0)
 |cons i t =>
  dsimp only;unfold Zc
  split
  ·rename_i h3;have:=X0 hp (i::t) (L[i.toNat]?.getD (0,0,0)).1 0 hi h3.1;rw[h3.2.1] at this;have:=h3.2.2;omega
  ·decide
def adi {m:ő} {w:Way} (h:MOk m) (hw:Ĩ m.2 w) {c:List Int} (hc:ŕ (sT m w) c=0):nN m w=false:=by
 rw[dW];intro he;have hg:=wg h hw;have hn:=hg.sys.n60;obtain⟨p,hp⟩:=(ki hg.sys.links (by omega)).1 he;exact adj hp c hc
def abI {m:ő} (h:MOk m) {chains:List (List Int)} (hc:vr m chains=true):∀w∈ĝ m.2,nN m w=false:=by
 intro w hw;obtain⟨i,hi,rfl⟩:=cO.1 hw;have:=dg.1 hc i (fu.2 hi);rw[cA hi] at this
 cases hx:chains[i]? with
 |none=>rw[hx] at this; cases this
 |some c =>
  rw[hx] at this;exact adi h (mz.1 hw) (of_decide_eq_true this)
def SX {m:ő} (h:MOk m) (hs:nV m=false):vr m ((ĝ m.2).map fun w=>AG (sT m w) (nT m w))=true:=by
 refine dg.2 fun i hi=>?_;rw[fu] at hi;have hx:(ĝ m.2)[i]?=some (ĝ m.2)[i]:=cA hi;have hw:(ĝ m.2)[i]∈ĝ m.2:=eT hi;rw[eA,hx];have he:=dG.1 hs _ hw;exact decide_eq_true (Ve (wg h (mz.1 hw)).sys (dW.2 he)).2.1
def exM (l:List Cmp):ő:=(((0,2),[(1,0,1000,(-5,5),(1,10),1),(2,0,1000,(-50,50),(1,4),0),(3,0,1100,(-1,1),(0,1),0)],[(1,10)],[(1,(20,29),3)],(7,10,[1],[2],-20,1,100,200)::l,[]),[(12,[2,3])])
def ex8:Cmp:=(8,15,[2],[1],100,1,0,0)
def ex9:Cmp:=(9,15,[3],[],1100,0,0,0)
def acT {l:List Cmp} (hl:l.length≤10) (hp:∀c∈l,c.2.2.1.length≤10∧c.2.2.2.1.length≤10):In (exM l).1:=by
 refine⟨⟨by simp[exM],by simp[exM],by simp[exM],by simp[exM]; omega,by simp[exM],fun c hc=>?_⟩,fun g hg=>?_⟩
 ·rcases cH.1 (show c∈(7,10,[1],[2],-20,1,100,200)::l from hc) with rfl|hc
  ·exact⟨by decide,by decide⟩
  ·have:=hp c hc; omega
 ·simp only[exM,cH,gg,or_false] at hg
  rcases hg with rfl|rfl|rfl<;>exact⟨by decide,by decide⟩
def w0:Ļ (exM [])=0∧Ļ (exM [ex8])=0∧Ļ (exM [ex8,ex9])=0:=by decide +kernel
def w1:ĝ (exM []).2=[[[2,3]],[[3,2]]]:=by decide +kernel
def w2:sa (exM [])=[[[2,3]],[[3,2]]]:=by decide +kernel
def w3:Xc (exM [ex8])=([[3,2]],0):=by decide +kernel
def w4:XR (exM [ex8]) 2 15=([(3,1099,1101)],0):=by decide +kernel
def w5:ahw (exM [ex8,ex9])=([8,9],0):=by decide +kernel
def w6:adZ (exM [ex8,ex9]) [7,8,9]=([8,9],0):=by decide +kernel
def w7:Gr (exM [ex8,ex9]) 2=(false,0):=by decide +kernel
def w8:nV (exM [ex8,ex9])=false:=by decide +kernel
def w9:ahr (exM [ex8,ex9]) [[3,2]] 2 13=(3,0):=by decide +kernel
def ZO:mb=some true:=by
 have i0:In (exM []).1:=acT (by decide) (by simp);have i1:In (exM [ex8]).1:=acT (by decide) (by decide);have i2:In (exM [ex8,ex9]).1:=acT (by decide) (by decide)
 have n:∀l,(exM l).2.length≤1000:=fun l=>by simp[exM]
 have h0:=(ň _).1 w0.1;have h2:=(ň _).1 w0.2.2;have e0:Ť []=some (exM []):=rfl;have e1:Ť [((8:Int),(15:Int),[(2:Int)],[(1:Int)],(100:Int),(1:Int),(0:Int),(0:Int))]=some (exM [ex8]):=rfl;have e2:Ť [((8:Int),(15:Int),[(2:Int)],[(1:Int)],(100:Int),(1:Int),(0:Int),(0:Int)),((9:Int),(15:Int),[(3:Int)],[],(1100:Int),(0:Int),(0:Int),(0:Int))]=some (exM [ex8,ex9]):=rfl
 have hp:Zw (exM [ex8,ex9])=((ĝ (exM [ex8,ex9]).2).map (fun w=>AG (sT (exM [ex8,ex9]) w) (nT (exM [ex8,ex9]) w)),0):=by
  unfold Zw; rw[if_neg (by simp[w0.2.2]),w8]; rfl
 have c1:mi (exM [ex8,ex9]) ((ĝ (exM [ex8,ex9]).2).map fun w=>AG (sT (exM [ex8,ex9]) w) (nT (exM [ex8,ex9]) w))=0:=by
  unfold mi;rw[if_neg (by simp[w0.2.2]),if_neg (by simp),SX h2 w8]; rfl
 have c2:∀c,mi (exM []) c=8:=fun c=>by
  unfold mi;rw[if_neg (by simp[w0.1])]
  split
  ·rfl
  ·rw[if_neg];intro hc;have:=abI h0 hc [[2,3]] (by rw[w1]; simp)
   have h3:[[2,3]]∈sa (exM []):=by rw[w2]; simp
   rw[(YU h3).2] at this;cases this
 unfold mb A3;rw[e0,À,adY i0 (n _),À,if_neg (by simp[w0.1]),À,All_ok i0 (n _),À,if_neg (by simp[w0.1]),e1,À,ad4 i1 (n _),À,À,ad5 i1 (n _),À,e2,À,ahv i2 (n _),À,XP i2 (n _) (by simp),À,Vu i2 (n _),À,w1,w2,w3,w4,w5,w6,w7];rw[afL i2 (n _),À,hp,Ì (by rfl),Ì (by rfl),Ì (by rfl),Ì (by rfl),Ì (by rfl),Ì (by rfl),Ì (by rfl),Ì (by simp[ine,Ò]),Ì (by simp[ine,Ò]),Ì (by rfl)];rw[show ∀f:Way→Option Bool,Ċ [[[2,3]],[[3,2]]] (1:Int) f=f [[3,2]] from fun f=>rfl];dsimp only;rw[XM i2 (n _) (by decide),À,w9,Ì (by rfl),Ì (by rfl),Ì (by rfl),EF i2 (n _),À,c1,Ì (by rfl),À,EF i0 (n _),À,c2,Ì (by rfl)];rw[aaU (by decide) (by decide),À,Ù (by rfl),Ù (by simp[ieq,Ò])];rw[show ∀f:Int×Int×Int→Option Bool,Ċ [((3:Int),(1099:Int),(1101:Int))] (0:Int) f=f (3,1099,1101) from fun f=>rfl];dsimp only;rw[Ù (by rfl),BX (by decide),À,Ù (by rfl),À];rfl
def DR {ρ α:Type} (l:List α) (K:Option ρ) {f:Int→(Int→Option ρ)→Option ρ} (h:∀(i:Nat) (a:α),i<l.length→l[i]?=some a→∀kn,f i kn=kn ((i:Int)+1)) (hn:∀kn,f l.length kn=K):Ê f 0=K:=by
 refine eh (jt l (fun _=>false) (fun _=>K) K (fun i a hi ha kn=>by rw[h i a hi ha kn]; rfl) hn) ?_;rw[dD.2 (by simp)]
def N2 {l:List (Int×Int)} (hn:l.length≤1000000):jv l l=some true:=by rw[Vx hn]; simp
def ED {l:List Int} (hn:l.length≤1000000):Ţ l l=some true:=by rw[BX hn]; simp
def If {c:Cmp} (hA:c.2.2.1.length≤1000) (hB:c.2.2.2.1.length≤1000):jM c c=some true:=by
 unfold jM nE;rw[ED (by omega),À,ED (by omega),À];simp[ieq,kQ]
def ad0 {b:Ğ} (hs:vL b):xO b b=some true:=by
 have h1:=hs.gauges; have h2:=hs.uses; have h3:=hs.loans; have h4:=hs.compares; have h5:=hs.looks;unfold xO Kd;rw[Ì (by simp[kQ]),Ì (show ine (Ø b.2.1) (Ø b.2.1)=false by simp[ine]),Ì (show ine (Ø b.2.2.1) (Ø b.2.2.1)=false by simp[ine]),Ì (show ine (Ø b.2.2.2.1) (Ø b.2.2.2.1)=false by simp[ine]),Ì (show ine (Ø b.2.2.2.2.1) (Ø b.2.2.2.2.1)=false by simp[ine])];refine DR b.2.1 _ (fun i a hi ha kn=>?_) (fun kn=>?_)
 ·try dsimp only
  unfold qP;rw[Ñ hi,È ha,È ha,Ë hi (by omega)];simp[kQ]
 ·try dsimp only
  unfold qP;rw[ß];dsimp only;refine DR b.2.2.1 _ (fun i a hi ha kn=>?_) (fun kn=>?_)
  ·try dsimp only
   unfold qO;rw[Ñ hi,È ha,È ha,Ë hi (by omega)];simp[kQ]
  ·try dsimp only
   unfold qO;rw[ß];dsimp only;refine DR b.2.2.2.1 _ (fun i a hi ha kn=>?_) (fun kn=>?_)
   ·try dsimp only
    unfold qN;rw[Ñ hi,È ha,È ha,Ë hi (by omega)];simp[kQ]
   ·try dsimp only
    unfold qN;rw[ß];dsimp only;refine DR b.2.2.2.2.1 _ (fun i a hi ha kn=>?_) (fun kn=>?_)
    ·try dsimp only
     unfold qM;have hp:=hs.piles a (List.mem_of_getElem? ha);rw[Ñ hi,È ha,È ha,If hp.1 hp.2,À,Ë hi (by omega)];rfl
    ·try dsimp only
     unfold qM;rw[ß];dsimp only;rw[N2 (by omega),À]
def bigP (c:Cmp):Bool:=decide (9<c.2.2.1.length)||decide (9<c.2.2.2.1.length)
def IY (m:ő):Bool:=decide (m.1.2.1.length≤6)&&(decide (m.1.2.2.1.length≤20)&&(decide (m.1.2.2.2.1.length≤6)&&(decide (m.1.2.2.2.2.1.length≤8)&&(decide (m.1.2.2.2.2.2.length≤6)&&decide (m.2.length≤6)))))
def SK (m:ő):Bool:=!((m.1.2.2.2.2.1.take 60).any bigP)&&(!((m.2.take 8).any fun x=>decide (9<x.2.length))&&IY m)
def abq (m:ő):yB m=some (SK m):=by
 unfold yB E7
 have last:(ifb (ile (Ø m.1.2.1) (6:Int)) (ifb (ile (Ø m.1.2.2.1) (20:Int)) (ifb (ile (Ø m.1.2.2.2.1) (6:Int)) (ifb (ile (Ø m.1.2.2.2.2.1) (8:Int)) (ifb (ile (Ø m.1.2.2.2.2.2) (6:Int)) (some (ile (Ø m.2) (6:Int))) (some false)) (some false)) (some false)) (some false)) (some false))=some (IY m):=by
  have e:∀(n m:Nat),ile (n:Int) (m:Int)=decide (n≤m):=fun n m=>by simp[ile]
  unfold IY;rw[Ò,Ò,Ò,Ò,Ò,Ò,show(6:Int)=((6:Nat):Int) from rfl,show(20:Int)=((20:Nat):Int) from rfl,show(8:Int)=((8:Nat):Int) from rfl,e,e,e,e,e,e];generalize decide (m.1.2.1.length≤6)=x1;generalize decide (m.1.2.2.1.length≤20)=x2;generalize decide (m.1.2.2.2.1.length≤6)=x3;generalize decide (m.1.2.2.2.2.1.length≤8)=x4;generalize decide (m.1.2.2.2.2.2.length≤6)=x5
  cases x1<;>cases x2<;>cases x3<;>cases x4<;>cases x5<;>rfl
 rw[last];refine eh (Š (m.1.2.2.2.2.1.take 60) bigP (fun _=>some false) (some false) (some (!((m.2.take 8).any fun x=>decide (9<x.2.length))&&IY m)) (fun _=>rfl) (fun i c hi hc kn=>?_) (fun kn=>?_)) ?_
 ·try dsimp only
  unfold ob;rw[List.length_take] at hi
  have hc':m.1.2.2.2.2.1[i]?=some c:=by rw[dI] at hc; split at hc<;>simp_all
  rw[Ñ (show i<m.1.2.2.2.2.1.length by omega),Ù (by simp[ilt]; omega),È hc',È hc',Ó (by omega) (by omega),Č,Ò,Ò];unfold bigP
  by_cases h1:9<c.2.2.1.length
  ·rw[if_pos (by simp[igt]; omega),if_pos (by simp[h1])]
  ·rw[if_neg (by simp[igt]; omega),Č]
   by_cases h2:9<c.2.2.2.1.length
   ·rw[if_pos (by simp[igt]; omega),if_pos (by simp[h2])]
   ·rw[if_neg (by simp[igt]; omega),if_neg (by simp[h1,h2])]
 ·refine eh ?_ (eh (Š (m.2.take 8) (fun x=>decide (9<x.2.length)) (fun _=>some false) (some false) (some (IY m)) (f:=fun v kk=>kp m.2 v (fun u=>kk u) (fun z=>some z) (fun _=>some (IY m))) (fun _=>rfl) (fun i x hi hx kn'=>?_) (fun kn'=>?_)) ?_)
  ·try dsimp only
   unfold ob;rw[List.length_take,Č]
   split
   ·rename_i h
    have h':60<m.1.2.2.2.2.1.length:=by rw[Ò] at h; simp[ilt] at h; omega
    rw[Ì (by simp[ilt]; omega)]
   ·rfl
  ·try dsimp only
   unfold kp;rw[List.length_take] at hi
   have hx':m.2[i]?=some x:=by rw[dI] at hx; split at hx<;>simp_all
   rw[Ñ (show i<m.2.length by omega),Ù (by simp[ilt]; omega),È hx',Ó (by omega) (by omega),Č,Ò]
   by_cases h1:9<x.2.length
   ·rw[if_pos (by simp[igt]; omega),if_pos (by simp[h1])]
   ·rw[if_neg (by simp[igt]; omega),if_neg (by simp[h1])]
  ·try dsimp only
   unfold kp;rw[List.length_take,Č]
   split
   ·rename_i h
    have h':8<m.2.length:=by rw[Ò] at h; simp[ilt] at h; omega
    rw[Ì (by simp[ilt]; omega)]
   ·rfl
  ·cases List.any (List.take 8 m.2) (fun x=>decide (9<x.2.length))<;>rfl
 ·unfold SK
  cases List.any (List.take 60 m.1.2.2.2.2.1) bigP<;>rfl
structure Small7 (m:ő):Prop where
 inn:In m.1
 n6:m.2.length≤6
 l9:∀x∈m.2,x.2.length≤9
 c8:m.1.2.2.2.2.1.length≤8
def abr {m:ő} (h:SK m=true) (hn:∀g∈m.1.2.1,I64 g.2.2.2.2.1.1):Small7 m:=by
 simp only[SK,IY,cD,dO,decide_eq_true_eq] at h;obtain⟨h0,h1,h2,h3,h4,h5,h6,h7⟩:=h;refine⟨⟨⟨by omega,by omega,by omega,by omega,by omega,fun c hc=>?_⟩,hn⟩,h7,fun x hx=>?_,h5⟩
 ·rw[dX (by omega)] at h0;have:=dG.1 h0 c hc;simp[bigP] at this;omega
 ·rw[dX (by omega)] at h1;have:=dG.1 h1 x hx;simp at this;omega
def Ss {m:ő} (h:MOk m) {w:Way} (hw:Ĩ m.2 w):∀l∈w,l.length≤100000:=by
 intro l hl;obtain⟨i,hi,rfl⟩:=cO.1 hl;obtain⟨x,hx⟩:∃x,m.2[i]?=some x:=⟨_,cA (by rw[←hw.len]; exact hi)⟩;obtain⟨l',h1,h2⟩:=hw.at hx;rw[cA hi] at h1;cases h1;have:=h.len5 x (cI hx);rw[h2.length_eq]; omega
def idW (ms:List Mx):Way:=ms.map fun x=>x.2
def UV:∀ms:List Mx,Ĩ ms (idW ms)
 |[]=>trivial
 |m::ms=>⟨List.Perm.refl _,UV ms⟩
def IM:∀{l m:List Int},l.length=m.length→(Mm l m=0↔l=m)
 |[],[],_=>by simp[Mm]
 |[],_::_,h=>by simp at h
 |_::_,[],h=>by simp at h
 |x::l,y::m,h=>by
  have ih:=IM (l:=l) (m:=m) (by simpa using h);have hb:=AM l m;rw[Mm,List.cons.injEq,←ih]
  by_cases he:y=x
  ·rw[if_pos he]; constructor
   ·intro e; exact⟨he.symm,by omega⟩
   ·intro e; omega
  ·rw[if_neg he]; constructor
   ·intro e; omega
   ·intro e; exact absurd e.1.symm he
def XZ:∀{l m:List Int},l.Perm m→Mm l m≠1
 |[],m,h=>by simp[Mm]
 |x::l,[],h=>by simp[Mm]
 |x::l,y::m,h=>by
  rw[Mm]
  by_cases he:y=x
  ·subst he;rw[if_pos rfl];have:=XZ (List.Perm.cons_inv h);omega
  ·rw[if_neg he];intro e;have h0:l=m:=(IM (by have:=h.length_eq; simpa using this)).1 (by omega);subst h0;have hx:List.count x (x::l)=List.count x (y::l):=h.count_eq x;rw[List.count_cons_self,List.count_cons_of_ne (fun e=>he e)] at hx;omega
def Ps:∀(ms:List Mx) (w:Way),0≤oD ms w
 |[],w=>by simp[oD]
 |m::ms,[]=>by unfold oD; exact Int.le_refl _
 |m::ms,l::ls=>by
  have h1:=AM l m.2;have h2:=Ps ms ls;rw[oD]; omega
def vX:∀{ms:List Mx} {w:Way},Ĩ ms w→(oD ms w=0↔w=idW ms)
 |[],[],_=>by simp[oD,idW]
 |m::ms,l::ls,h=>by
  have h1:=IM (l:=l) (m:=m.2) h.1.length_eq;have h2:=vX h.2;have b1:=AM l m.2;have b2:=Ps ms ls;rw[oD,idW,d8,List.cons.injEq,←h1,show(List.map (fun x:Mx=>x.2) ms)=idW ms from rfl,←h2];constructor
  ·intro e; exact⟨by omega,by omega⟩
  ·intro e; omega
def XY:∀{ms:List Mx} {w:Way},Ĩ ms w→oD ms w≠1
 |[],[],_=>by simp[oD]
 |m::ms,l::ls,h=>by
  have h1:=XZ h.1;have h2:=XY h.2;have b1:=AM l m.2;have b2:=Ps ms ls;rw[oD];omega
def aaq {α β:Type} {f:α→List β} {l:List α} (hl:l.Nodup) (hf:∀a∈l,(f a).Nodup) (hd:∀a b,a≠b→∀x∈f a,∀y∈f b,x≠y):(l.flatMap f).Nodup:=by
 unfold List.Nodup;rw[List.pairwise_flatMap];exact⟨hf,hl.imp fun hne=>hd _ _ hne⟩
def Ov:∀{n:Nat} {l:List Int},l.length=n→l.Nodup→(EZ n l).Nodup
 |0,_,_,_=>by simp[EZ]
 |n+1,l,h,hn=>by
  rw[EZ,if_neg (by omega)]
  have hg:∀i (hi:i<l.length),l.getD i 0=l[i]:=fun i hi=>by rw[dV,cA hi]; rfl
  unfold List.Nodup;rw[List.pairwise_flatMap];refine⟨fun i hi=>List.pairwise_map.2 ((Ov (n:=n) (l:=l.take i++l.drop (i+1)) (by simp at hi ⊢; omega) ?_).imp fun hne e=>hne (List.cons.inj e).2),?_⟩
  ·rw[fu] at hi;exact(eE.1 ((PH hi).nodup_iff.2 hn)).2
  ·refine List.Pairwise.imp_of_mem (R:=(·≠·)) ?_ List.nodup_range;intro i j hi hj hne x hx y hy e;rw[fu] at hi hj;obtain⟨a,_,rfl⟩:=dc.1 hx;obtain⟨b,_,rfl⟩:=dc.1 hy;have:=(List.cons.inj e).1;rw[hg i hi,hg j hj] at this;exact hne ((List.getElem_inj hn).1 this)
def LR:∀{ms:List Mx},(∀x∈ms,x.2.Nodup)→(iA ms).Nodup
 |[],_=>by simp[iA]
 |m::ms,h=>by
  rw[iA];refine aaq (Ov rfl (h m (by simp))) (fun x _=>List.pairwise_map.2 ((LR fun y hy=>h y (cZ _ hy)).imp fun hne e=>hne (List.cons.inj e).2)) fun a b hne x hx y hy e=>?_;obtain⟨_,_,rfl⟩:=dc.1 hx;obtain⟨_,_,rfl⟩:=dc.1 hy;exact hne (List.cons.inj e).1
def VL {ms:List Mx} (h:∀x∈ms,x.2.Nodup):(ĝ ms).Nodup:=((Ķ (key:=oD ms) (iA ms)).perm).nodup_iff.2 (LR h)
def ZE {ms:List Mx} (h:∀x∈ms,x.2.Nodup):∃t,ĝ ms=idW ms::t∧∀w∈t,Ĩ ms w∧oD ms w≠0:=by
 have hs:Srt (oD ms) (ĝ ms):=ic _;have hi:idW ms∈ĝ ms:=mz.2 (UV ms);have hn:=VL h
 cases hw:ĝ ms with
 |nil=>rw[hw] at hi; cases hi
 |cons x t =>
  rw[hw] at hi hs hn;have hx:Ĩ ms x:=mz.1 (by rw[hw]; simp);have hz:oD ms (idW ms)=0:=(vX (UV ms)).2 rfl;have b2:=Ps ms x
  have hx0:x=idW ms:=by
   rcases cH.1 hi with e|e
   ·exact e.symm
   ·refine(vX hx).1 ?_;have:=(dk.1 hs).1 _ e;omega
  subst hx0;refine⟨t,rfl,fun w hwt=>?_⟩;have hwo:Ĩ ms w:=mz.1 (by rw[hw]; simp[hwt]);refine⟨hwo,fun e=>?_⟩;have:=(vX hwo).1 e;subst this;exact(eE.1 hn).1 hwt
def stp_id {d:Int} {m:Mx} (hn:m.2.Nodup) (x:Int):stp d m m.2 x=x:=by
 unfold stp
 split
 ·by_cases hx:x∈m.2
  ·obtain⟨k,h1,h2⟩:=Rx hx;rw[h1];dsimp only;rw[List.getD_eq_getElem?_getD,h2]; rfl
  ·rw[Iz hx]
 ·rfl
def afQ:∀{ms:List Mx},(∀x∈ms,x.2.Nodup)→∀x d,gM ms (idW ms) x d=x
 |[],_,x,d=>rfl
 |m::ms,h,x,d=>by
  show stp d m m.2 (gM ms (idW ms) x d)=x;rw[afQ fun y hy=>h y (cZ _ hy),stp_id (h m (by simp))]
def acy {l:List Int} (h:l.Pairwise (·<·)):kJ l=l :=
 gw (fun a b _ _ h1 h2=>Int.le_antisymm h1 h2) (i6 l) (h.imp fun h=>Int.le_of_lt h) (ņ l)
def tr_id {m:ő} (h:MOk m):trP m (idW m.2)=m.1:=by
 have hw:=afQ h.nd
 have e1:∀l:List (Int×Int),l.map (fun u=>(gM m.2 (idW m.2) u.1 u.2,u.2))=l:=fun l=>by
  conv=>rhs; rw[←List.map_id l]
  exact dU fun u _=>by rw[hw]; rfl
 have e2:∀l:List Mi,l.map (fun l=>(gM m.2 (idW m.2) l.1 l.2.1.1,l.2))=l:=fun l=>by
  conv=>rhs; rw[←List.map_id l]
  exact dU fun u _=>by rw[hw]; rfl
 have e3:m.1.2.2.2.2.1.map (aaZ m (idW m.2))=m.1.2.2.2.2.1:=by
  conv=>rhs; rw[←List.map_id m.1.2.2.2.2.1]
  refine dU fun c hc=>?_;have hp:=(jn c).1 (h.good.nums hc)
  have hpt:∀l,vN l=true→la m (idW m.2) c.2.1 l=l:=fun l hl=>by
   unfold la
   rw[show(l.map fun x=>gM m.2 (idW m.2) x c.2.1)=l by
    conv=>rhs; rw[←List.map_id l]
    exact dU fun u _=>by rw[hw]; rfl,acy ((Cd l).1 hl).2.1]
  unfold aaZ;rw[hpt _ hp.2.2.2.2.2.1,hpt _ hp.2.2.2.2.2.2]; rfl
 unfold trP;rw[e1,e2,e3,e1]
def afB {m:ő} (hn:∀g∈m.1.2.1,I64 g.2.2.2.2.1.1) (id d:Int):vg m id d=some true:=by
 unfold vg tZ;rw[abq,À,ZO]
 by_cases hs:SK m=true
 case neg=>rw[dW.2 hs]; rfl
 have h7:=abr hs hn;have hl6:=h7.n6;rw[hs,Ì (by rfl),adY h7.inn (by omega),À]
 by_cases hc:Ļ m=0
 case neg=>rw[if_pos hc,Ù (by simp[ine,hc])]; rfl
 have h:=(ň m).1 hc;have hl2:=pZ h;obtain⟨t,ht,hr⟩:=ZE h.nd;rw[if_neg (by simp[hc]),Ì (by rfl)];dsimp only;rw[Ì (by rw[Ò,ht]; simp[ieq]; omega)];have hm:((((m.1.1.1,m.1.1.2),m.1.2.1,m.1.2.2.1,m.1.2.2.2.1,m.1.2.2.2.2.1,m.1.2.2.2.2.2),m.2):ő)=m:=rfl;have hsrt:Srt (oD m.2) (ĝ m.2):=ic _;refine FZ (ĝ m.2) (fun i=>if i=0 then 0 else oD m.2 ((ĝ m.2)[i-1]?.getD [])) _ (fun _=>True) rfl trivial (fun i w hi hw _ kn=>?_) (fun _ kn=>?_)
 ·refine .inr ⟨trivial,?_⟩;have ho:=oR hw;have hsh:=Ss h ho;have hask:nq m w=0:=mg.2 ⟨h,ho⟩
  have hnx:(if i+1=0 then 0 else oD m.2 ((ĝ m.2)[i+1-1]?.getD []))=oD m.2 w:=by
   rw[if_neg (by omega),Nat.add_sub_cancel,hw]; rfl
  have hle:(if i=0 then 0 else oD m.2 ((ĝ m.2)[i-1]?.getD []))≤oD m.2 w:=by
   split
   ·exact(VK (n:=5) h.len5).1
   ·obtain⟨h1,e1⟩:=cE.1 hw;have:=dh.1 hsrt (i-1) i (by omega) h1 (by omega);rw[cA (show i-1<_ by omega),←e1];exact this
  have hone:=XY ho
  have h0:i=0→oD m.2 w=0:=fun e=>by
   subst e;rw[ht] at hw; cases hw;exact(vX (UV _)).2 rfl
  have h1:i≠0→oD m.2 w≠0:=fun e=>by
   obtain⟨j,rfl⟩:∃j,i=j+1:=⟨i-1,by omega⟩;rw[ht] at hw;exact(hr w (cI hw)).2
  rw[hnx];dsimp only;unfold jC;rw[Ñ hi,È hw,hm,aaS h7.inn (by omega) hsh,À,XN,if_neg (by simp[hask]),Ì (by rfl),Ì (by simp[ilt]; omega),Ì (by simp[ieq,hone])];rw[È hw,XM h7.inn (by omega) hsh,À]
  have tail:∀X:Option Bool,X=(ifb (ine (ahr m w id d).2 (0:Int)) (ck ((i:Int)+(1:Int)) fun n9=>kn (oD m.2 w,n9)) (Ċ (ĝ m.2) (i:Int) fun e10=>Ã (ο m e10 (ahr m w id d).1 d) fun r11=>Ċ (ĝ m.2) (i:Int) fun e12=>Ã (ο m e12 id d) fun r13=>ifb (ine r11.2 (0:Int)) (some false) (ifb (ine r13.2 (0:Int)) (some false) (ifb (ine r11.1 id) (some false) (Ċ (ĝ m.2) (i:Int) fun e14=>Ã (mc m e14 r13.1 d) fun r15=>ifb (ine r15.2 (0:Int)) (some false) (ifb (ine r15.1 id) (some false) (ck ((i:Int)+(1:Int)) fun n16=>kn (oD m.2 w,n16))))))))→X=kn (oD m.2 w,(i:Int)+1):=fun X e=>by
   rw[e,ahr,if_neg (by simp[hask])]
   by_cases hk:kI m.1 id d=0
   ·obtain⟨k1,k2⟩:=uX.1 hk;have kw:kI m.1 (gM m.2 w id d) d=0:=uX.2 ⟨k1,h.whoK ho k2⟩;have kl:kI m.1 (Xd m.2 w id d) d=0:=uX.2 ⟨k1,h.labK ho k2⟩;rw[if_neg (by simp[hk]),Ì (by rfl),È hw,Vy h7.inn (by omega) hsh,À,È hw,Vy h7.inn (by omega) hsh,À,Zx,if_neg (by simp[hask]),if_neg (by simp[kw]),Zx,if_neg (by simp[hask]),if_neg (by simp[hk]),Ì (by rfl),Ì (by rfl),Ld ho h.nd,Ì (by simp[ine]),È hw,XM h7.inn (by omega) hsh,À,ahr,if_neg (by simp[hask]),if_neg (by simp[kl]),Pr ho h.nd,Ì (by rfl),Ì (by simp[ine]),Ë hi (by omega)]
   ·rw[if_pos hk,Ù (by simp[ine,hk]),Ë hi (by omega)]
  refine tail _ ?_
  by_cases e:i=0
  ·subst e;rw[Ù (by rfl),Ì (by simp[ine,h0]),Ì (by simp[igt])]
  ·rw[Ì (by simp[ieq,e]),Ù (by simp[igt]; omega),Ì (by simp[ieq,h1 e])]
 ·dsimp only;unfold jC;rw[ß];dsimp only
  have hw0:(ĝ m.2)[0]?=some (idW m.2):=by rw[ht]; rfl
  have ho:=UV m.2;rw[show Ċ (ĝ m.2) (0:Int) _=_ from È (i:=0) hw0 _,Vv h7.inn (by omega) (Ss h ho),À,Gs,if_neg (by simp[mg.2 ⟨h,ho⟩]),À,Ù (by rfl),Ù (by rfl),tr_id h,ad0 h7.inn.size,À,Č,Č]
  split
  ·rfl
  ·rename_i hlt
   have:m.2=[]:=by rw[Ò] at hlt; simp[igt] at hlt; exact hlt
   have hl:(ĝ m.2).length=1:=by rw[Sq,this]; rfl
   rw[if_pos (by rw[Ò,hl]; rfl)]
end Go.Proofs.ZzM
end
