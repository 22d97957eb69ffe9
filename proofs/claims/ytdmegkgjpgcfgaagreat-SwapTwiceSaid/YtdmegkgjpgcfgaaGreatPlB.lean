/- lemmas -/
import Derived.Test.YtdmegkgjpgcfgaaGreatPlA
import Derived.Test.YtdmegkgjpgcfgaaGreatMdTA
set_option linter.all false
set_option linter.unusedSectionVars false
set_option linter.unusedVariables false
set_option linter.unusedSimpArgs false
noncomputable section
namespace Go.Proofs.ZzM
open Go Go.Am
section
variable {ρ:Type}
def OJ {α σ:Type} (l:List α) (g:Nat→σ) (r:Option ρ) {f:σ×Int→(σ×Int→Option ρ)→Option ρ} {s0:σ} (P:Nat→Prop) (h0:g 0=s0) (hP:P 0)
 (h:∀(i:Nat) (a:α),i<l.length→l[i]?=some a→P i→∀kn,f (g i,i) kn=r∨(P (i+1)∧f (g i,i) kn=kn (g (i+1),(i:Int)+1)))
 (hn:P l.length→∀kn,f (g l.length,l.length) kn=r):Ê f (s0,0)=r:=by
 subst h0;refine tK (F:=fun _=>r) (fun x=>∃i:Nat,i≤l.length∧x=(g i,(i:Int))∧P i) (fun x=>l.length-x.2.toNat) (fun x hx kn hk=>?_) ⟨0,dR _,rfl,hP⟩;obtain⟨i,hi,rfl,hp⟩:=hx;rcases dg i l.length with hlt|hge
 ·rcases h i _ hlt (cG hlt) hp kn with h1|⟨h1,h2⟩
  ·exact h1
  ·rw[h2,hk _ ⟨i+1,hlt,by simp,h1⟩ (by simp; omega)]
 ·have:i=l.length:=by omega
  subst this;exact hn hp kn
def Yv {l:List Int} {f:Int→(Int→Option ρ)→Option ρ} {K k1:Option ρ} (h:∀(i:Nat) (a b:Int),l[i]?=some a→l[i+1]?=some b→∀kn,f ((i:Int)+1) kn=if b≤a then K else kn ((i:Int)+1+1))
 (hn:∀n:Nat,l.length≤n→∀kn,f n kn=k1):Ê f 1=if l.Pairwise (·<·) then k1 else K:=by
 have hb:=IG (fun x:Int=>x) l;refine ė (fun x=>∃i:Nat,x=(i:Int)+1∧∀j a,j≤i→l[j]?=some a→t7 (fun x=>x) l j a=false) (fun x=>l.length-x.toNat) ?_ ⟨0,rfl,fun j a hj _=>?_⟩
 ·rintro x ⟨i,rfl,hi⟩;rcases dg (i+1) l.length with hlt|hge
  ·have ha:l[i]?=some l[i]:=cG (by omega);have hc:l[i+1]?=some l[i+1]:=cG hlt
   by_cases hle:l[i+1]≤l[i]
   ·refine .inl fun kn=>?_;rw[h i _ _ ha hc,if_pos hle,if_neg];intro hp;have:=hb.2 hp (i+1) _ hc;simp[t7,ha,hle] at this
   ·refine .inr ⟨(i:Int)+1+1,⟨i+1,by simp,fun j a hj hja=>?_⟩,by omega,fun kn=>by rw[h i _ _ ha hc,if_neg hle]⟩;rcases dg i j with h1|h1
    ·have:j=i+1:=by omega
     subst this;rw[hc] at hja; cases hja;simp[t7,ha]; omega
    ·exact hi j a h1 hja
  ·refine .inl fun kn=>?_;have:=hn (i+1) hge kn;simp only[Int.natCast_add,Int.cast_ofNat_Int] at this;rw[this,if_pos];refine hb.1 fun j a hj=>hi j a ?_ hj;have:=(cJ.1 hj).1;omega
 ·have:j=0:=by omega
  subst this; simp[t7]
end
def mixE (b:Ĕ) (l:List Mx) (i:Nat) (x:Mx):Int :=
 if !(inP x.1 0 19999&&inP x.2.length 2 5) then 1 else
 if ¬x.2.Pairwise (·<·) then 1 else
 if x.2.any (fun g=>(ö b g).isNone) then 5 else
 if x.2.any (fun g=>GB b g x.1 != 0) then 4 else
 if t7 (fun y=>y.1) l i x then 6 else
 if x.2.any (fun g=>(lM b g x.1).isSome||(lM b g (x.1+1)).isSome) then 9 else 0
def W7:Nat→Nat
 |0=>1
 |n+1=>W7 n*(n+1)
def zm:List Mx→Nat
 |[]=>1
 |x::r=>W7 x.2.length*zm r
def N5:∀{l:List Mx} {i:Nat} {x:Mx},l[i]?=some x→zm (l.take (i+1))=zm (l.take i)*W7 x.2.length
 |[],_,_,h=>by simp at h
 |y::l,0,x,h=>by simp at h; subst h; simp[zm]
 |y::l,i+1,x,h=>by
  simp only[fF] at h;simp only[gC,zm,N5 h,Nat.mul_assoc]
def acU:∀{n:Nat},n≤5→W7 n≤120
 |0,_|1,_|2,_|3,_|4,_|5,_=>by decide
 |n+6,h=>by omega
def X8:∀{l:List Mx} {n:Nat},l.length≤n→(∀x∈l,x.2.length≤5)→zm l≤120 ^ n
 |[],n,_,_=>Nat.one_le_pow _ _ (by decide)
 |x::l,0,h,_=>by simp at h
 |x::l,n+1,h,hl=>by
  have h1:=X8 (l:=l) (n:=n) (by simpa using h) fun y hy=>hl y (dl _ hy);have h2:=acU (hl x (by simp));rw[zm,Nat.pow_succ,Nat.mul_comm];exact fU h1 h2
def On (b:Ĕ) (l:List Mx):Option Int:=Ŋ (fun i x=>Vq (mixE b l i x)) 0 l
def ę (m:ņ):Int :=
 if Ġ m.1≠0 then Ġ m.1 else if 4<m.2.length then 2 else match On m.1 m.2 with
 |some e=>e
 |none=>if 150<zm m.2 then 2 else 0
def Jq (l:List Ā):List (Int×Int):=l.foldl (fun m g=>Jj (k:=tI) (v:=tI) g.1 g.2.1 m) []
def Oq (x y n:Int):∀m:List (Int×Int),lR (k:=tI) (v:=tI) x (Jj (k:=tI) (v:=tI) y n m)=if x=y then some n else lR (k:=tI) (v:=tI) x m
 |[]=>by
  unfold Jj lR Ź lR
  by_cases h:x=y<;>simp[h]
 |e::m=>by
  unfold Jj
  by_cases h:y=e.1
  ·have:Ź tI y e.1=true:=by simp[Ź,h]
   rw[this];simp only;unfold lR
   by_cases hx:x=y
   ·subst hx; simp[Ź]
   ·have:Ź tI x y=false:=by simp[Ź,hx]
    have h2:Ź tI x e.1=false:=by simp[Ź,←h,hx]
    rw[this,if_neg hx];simp only[h2]
  ·have:Ź tI y e.1=false:=by simp[Ź,h]
   rw[this];simp only;unfold lR
   by_cases hx:x=e.1
   ·subst hx;rw[if_neg (fun e=>h e.symm)];simp[Ź]
   ·have h2:Ź tI x e.1=false:=by simp[Ź,hx]
    rw[h2];exact Oq x y n m
def ZU (x:Int) (l:List Ā):lR (k:=tI) (v:=tI) x (Jq l)=(l.reverse.find? fun g=>g.1==x).map fun g=>g.2.1:=by
 have key:∀r:List Ā,lR (k:=tI) (v:=tI) x (Jq r.reverse)=(r.find? fun g=>g.1==x).map fun g=>g.2.1:=by
  intro r
  induction r with
  |nil=>rfl
  |cons g r ih =>
   rw[List.reverse_cons,Jq,List.foldl_append];simp only[f9,List.foldl_nil];rw[Oq,fw]
   by_cases h:x=g.1
   ·subst h; simp
   ·have:(g.1==x)=false:=by simp; exact fun e=>h e.symm
    rw[if_neg h,this];exact ih
 have:=key l.reverse
 rwa [List.reverse_reverse] at this
def ab4 {b:Ĕ} (h:b.2.1.Pairwise fun a b=>a.1<b.1) (x:Int):lR (k:=tI) (v:=tI) x (Jq b.2.1)=(ö b x).map fun g=>g.2.1:=by
 rw[ZU,Ha h]; rfl
def Ux {ρ:Type} {b:Ĕ} (h:b.2.1.Pairwise fun a b=>a.1<b.1) (x:Int) (f:Int→Option ρ) (g:Option ρ):Mh (k:=tI) (v:=tI) x (Jq b.2.1) f g=match ö b x with|some y=>f y.2.1|none=>g:=by
 unfold Mh;rw[ab4 h]
 cases ö b x<;>rfl
section
variable {ρ:Type} {b:Ĕ}
def mix_L0 {l:List Int} (hl:l.length≤1000) (k0:Int→Option ρ) (k1:Unit→Option ρ):Ê (fun(v:Int) kk=>mZ l v (fun u=>kk u) k0 k1) 1=if l.Pairwise (·<·) then k1 () else k0 1:=by
 refine Yv (fun i a c ha hc kn=>?_) (fun n hn kn=>?_)
 ·have hi:=(List.getElem?_eq_some_iff.1 hc).1;unfold mZ
  have e:((i:Int)+1)=((i+1:Nat):Int):=by omega
  rw[e,Ï hi,È hc,Ó (by omega) (by omega),←e,Int.add_sub_cancel,È ha,Ċ,Ó (by omega) (by omega)];simp
 ·unfold mZ;rw[Ð (by simp[ilt,Ô]; omega)]
def mix_L1 (hn:b.2.1.length≤1000) (k0:List (Int×Int)→Option ρ):Ê (fun(v:Int×List (Int×Int)) kk=>mY b.2.1 (Ù b.2.1) v.1 v.2 (fun u v=>kk (u,v)) k0) ((0:Int),[])=k0 (Jq b.2.1):=by
 refine ģ b.2.1 (fun i=>Jq (b.2.1.take i)) _ rfl (fun i g hi hg kn=>?_) (fun kn=>?_)
 ·try dsimp only
  unfold mY;rw[Ï hi,È hg,Ë hi (by omega)];congr 2;rw[take_succ hg,Jq,Jq,List.foldl_append];rfl
 ·try dsimp only
  unfold mY;rw[Ý,List.take_length]
def mix_L2 (hi:b.2.1.Pairwise fun a b=>a.1<b.1) {l:List Int} (hl:l.length≤1000) (X Y Z:Option ρ):Ê (fun(v:Int) kk=>mX l (Ù l) (Jq b.2.1) v (fun u=>kk u) (fun z=>ifb (ige z (0:Int)) X Y) (fun _=>Z)) 0=if l.any (fun g=>(ö b g).isNone) then X else Z:=by
 refine ľ l _ (fun z=>ifb (ige z (0:Int)) X Y) X Z (fun j=>Ú (by simp[ige]) _ _) (fun i a hia ha kn=>?_) (fun kn=>?_)
 ·unfold mX;rw[Ï hia,È ha,Ux hi,Ë hia (by omega)]
  cases ö b a<;>rfl
 ·unfold mX;rw[Ý]
def mix_L3 (hi:b.2.1.Pairwise fun a b=>a.1<b.1) {l:List Int} (hl:l.length≤1000) (hk:∀x∈l,∃g,ö b x=some g) (d:Int) (X Y Z:Option ρ):Ê (fun(v:Int) kk=>kq l (Ù l) d (Jq b.2.1) v (fun u=>kk u) (fun z=>ifb (ige z (0:Int)) X Y) (fun _=>Z)) 0=if l.any (fun g=>GB b g d != 0) then X else Z:=by
 refine ľ l _ (fun z=>ifb (ige z (0:Int)) X Y) X Z (fun j=>Ú (by simp[ige]) _ _) (fun i a hia ha kn=>?_) (fun kn=>?_)
 ·unfold kq;rw[Ï hia,È ha,Ux hi,Ë hia (by omega)];obtain⟨g,hg⟩:=hk a (List.mem_of_getElem? ha);unfold GB;rw[hg];dsimp only;rw[Ċ]
  by_cases h:d<g.2.1<;>simp[ilt,h]
 ·unfold kq;rw[Ý]
def mix_L4 (h:Ξ b) {l:List Int} (hl:l.length≤1000) (hk:∀x∈l,∃g,ö b x=some g) {d:Int} (hd:0≤d∧d<20000) (X Y Z:Option ρ):Ê (fun(v:Int) kk=>Ň l (Ù l) b.1.1 b.1.2 b.2.1 b.2.2.1 b.2.2.2.1 b.2.2.2.2.1 b.2.2.2.2.2 d v (fun u=>kk u) (fun z=>ifb (ige z (0:Int)) X Y) (fun _=>Z)) 0=if l.any (fun g=>(lM b g d).isSome||(lM b g (d+1)).isSome) then X else Z:=by
 refine ľ l _ (fun z=>ifb (ige z (0:Int)) X Y) X Z (fun j=>Ú (by simp[ige]) _ _) (fun i a hia ha kn=>?_) (fun kn=>?_)
 ·unfold Ň;obtain⟨g,hg⟩:=hk a (List.mem_of_getElem? ha)
  have hw:∀e,0≤e→e≤20000→yZ ((b.1.1,b.1.2),b.2.1,b.2.2.1,b.2.2.2.1,b.2.2.2.2.1,b.2.2.2.2.2) a e=some ((lM b a e).isSome,0):=fun e h0 h1=>by
   rw[show(((b.1.1,b.1.2),b.2.1,b.2.2.1,b.2.2.2.1,b.2.2.2.2.1,b.2.2.2.2.2):Ĕ)=b from rfl,ahK ⟨h.size,fun g hg=>by have:=(h.gaugeR hg).2.1; unfold I64; omega⟩]
   have:L2 b a [e]=0:=by
    unfold L2;rw[if_neg (by simp[(ś b).2 h]),if_neg (by simp[IE,inP,h0,h1]),yD h.ids,hg]; rfl
   unfold ahL;rw[if_neg (by simp[this])]
  rw[Ï hia,È ha,hw d hd.1 (by omega),À,Ó (by omega) (by omega),hw (d+1) (by omega) (by omega),À,Ë hia (by omega)];dsimp only
  cases(lM b a d).isSome<;>cases(lM b a (d+1)).isSome<;>rfl
 ·unfold Ň;rw[Ý]
end
def aeW {b:Ĕ} (h:Ξ b) {l:List Mx} {i:Nat} {x:Mx} (hx:l[i]?=some x) (hn:i≤1000):Ej b l i=some (mixE b l i x):=by
 unfold Ej JP mixE;rw[È hx]
 by_cases h1:inP x.1 0 19999=true∧inP (x.2.length:Int) 2 5=true
 ·obtain⟨h1,h2⟩:=h1;rw[if_neg (by simp[h1,h2])];simp only[inP,cI,decide_eq_true_eq] at h1 h2
  have hl:x.2.length≤1000:=by omega
  rw[Ð (by simp[ilt]; omega),Ð (by simp[ige]; omega),Ð (by simp[ilt,Ô]; omega),Ð (by simp[igt,Ô]; omega),mix_L0 hl]
  by_cases h3:x.2.Pairwise (·<·)
  ·rw[if_pos h3,if_neg (by simpa using h3)]
   try dsimp only
   rw[mix_L1 (by have:=h.nG; omega),mix_L2 h.ids hl]
   by_cases h4:(x.2.any fun g=>(ö b g).isNone)=true
   ·rw[if_pos h4,if_pos h4]
   ·have hk:∀y∈x.2,∃g,ö b y=some g:=fun y hy=>by
     simp only[dj,not_exists,not_and,Option.isNone_iff_eq_none] at h4;exact Option.ne_none_iff_exists'.1 (h4 y hy)
    rw[if_neg h4,if_neg h4,mix_L3 h.ids hl hk]
    by_cases h5:(x.2.any fun g=>GB b g x.1 != 0)=true
    ·rw[if_pos h5,if_pos h5]
    ·rw[if_neg h5,if_neg h5,mix_L4 h hl hk (by omega)]
     cases i with
     |zero =>
      rw[Ð (by simp[igt]),if_neg (show ¬t7 (fun y:Mx=>y.1) l 0 x=true by simp[t7])]
      split<;>rfl
     |succ i =>
      obtain⟨hi,_⟩:=cJ.1 hx;have hy:l[i]?=some l[i]:=cG (by omega)
      have e:((i+1:Nat):Int)-1=i:=by omega
      rw[Ú (by simp[igt]),Ó (by omega) (by omega),e,È hy,Ċ];unfold t7;simp only[Nat.add_sub_cancel,hy,Option.any_some,Nat.succ_pos,decide_true,Bool.true_and,ile,decide_eq_true_eq]
      split
      ·rfl
      ·split<;>rfl
  ·rw[if_neg h3,if_pos h3]
 ·rw[if_pos (by simp only[eh]; cases h2:inP x.1 0 19999<;>cases h3:inP (x.2.length:Int) 2 5<;>simp_all)]
  simp only[inP,cI,decide_eq_true_eq,not_and,Int.not_le] at h1;simp only[Ċ,ilt,ige,igt,Ô,decide_eq_true_eq]
  split
  ·rfl
  split
  ·rfl
  split
  ·rfl
  rw[if_pos (by have:=h1 (by omega); omega)]
def Yt {b:Ĕ} {l:List Mx} {i:Nat} {x:Mx} (h:mixE b l i x=0):x.2.length≤5:=by
 unfold mixE at h
 split at h
 ·cases h
 ·rename_i h1;simp[inP] at h1;omega
def ae9 {n v:Nat} (hn:n≤5) (hv:v≤1000000000) {ρ:Type} (k0:Int→Option ρ):Ê (fun(u:Int×Int) kk=>m8 (ZR n) u.1 u.2 (fun a b=>kk (a,b)) k0) ((v:Int),(0:Int))=k0 ((v*W7 n:Nat):Int):=by
 refine OJ (List.range n) (fun i=>((v*W7 i:Nat):Int)) _ (fun _=>True) (by simp[W7]) trivial (fun i a hi ha _ kn=>.inr ⟨trivial,?_⟩) (fun _ kn=>?_)
 ·rw[fP] at hi
  try dsimp only
  unfold m8;have hf:=acU (n:=i) (by omega);have hb:v*W7 i≤1000000000*120:=Nat.mul_le_mul hv hf;have h2:v*W7 i*(i+1)≤1000000000*120*6:=Nat.mul_le_mul hb (by omega)
  have e:((v*W7 i:Nat):Int)*((i:Int)+1)=((v*W7 i*(i+1):Nat):Int):=by simp
  rw[af8 hi,Ó (by omega) (by omega),e,Ó (by omega) (by omega),Ó (by omega) (by omega),W7,Nat.mul_assoc]
 ·rw[fP]
  try dsimp only
  unfold m8;rw[Ý]
def ab3 {b:Ĕ} {l:List Mx} {i:Nat} {x:Mx} (hx:l[i]?=some x) (hp:∀j y,j<i→l[j]?=some y→mixE b l j y=0) (he:mixE b l i x≠0):On b l=some (mixE b l i x):=by
 have key:∀(m:List Mx) (k:Nat),l.drop k=m→k≤i→Ŋ (fun i x=>Vq (mixE b l i x)) k m=some (mixE b l i x):=by
  intro m
  induction m with
  |nil =>
   intro k hk hki;have:=List.drop_eq_nil_iff.1 hk;have:=(cJ.1 hx).1;omega
  |cons y m ih =>
   intro k hk hki
   have hy:l[k]?=some y:=by
    have:(l.drop k)[0]?=some y:=by rw[hk]; rfl
    simpa using this
   rw[Ŋ];rcases dg k i with hlt|hge
   ·rw[hp k y hlt hy];simp only[Vq,if_true];refine ih (k+1) ?_ hlt;rw[←List.tail_drop,hk]; rfl
   ·have:k=i:=by omega
    subst this;rw[hx] at hy; cases hy;simp[Vq,he]
 exact key l 0 rfl (dR _)
def Jk {b:Ĕ} {l:List Mx} (hp:∀j y,l[j]?=some y→mixE b l j y=0):On b l=none:=by
 rw[On,i7];intro j y hy;rw[dw,hp j y hy]; rfl
def j7 {m:ņ} (hs:In m.1) (hn:m.2.length≤1000):š m=some (ę m):=by
 unfold š J4 ę;rw[rN hs.size hs.num,À]
 by_cases hc:Ġ m.1=0
 ·have hg:=(ś _).1 hc;rw[Ð (by simp[ine,hc]),if_neg (by simp[hc])]
  by_cases h4:4<m.2.length
  ·rw[Ú (by simp[igt,Ô]; omega),if_pos h4]
  ·rw[Ð (by simp[igt,Ô]; omega),if_neg h4];refine OJ m.2 (fun i=>((zm (m.2.take i):Nat):Int)) _ (fun i=>∀j y,j<i→m.2[j]?=some y→mixE m.1 m.2 j y=0) (by simp[zm]) (fun j y h _=>by omega) (fun i x hi hx hp kn=>?_) (fun hp kn=>?_)
   ·try dsimp only
    unfold qV;rw[Ï hi,È hx,show(((m.1.1.1,m.1.1.2),m.1.2.1,m.1.2.2.1,m.1.2.2.2.1,m.1.2.2.2.2.1,m.1.2.2.2.2.2):Ĕ)=m.1 from rfl,aeW hg hx (by omega),À]
    by_cases he:mixE m.1 m.2 i x=0
    ·rw[Ð (by simp[ine,he])]
     have h5:∀y∈m.2.take i,y.2.length≤5:=fun y hy=>by
      obtain⟨j,hj,rfl⟩:=cT.1 hy;rw[dc] at hj;rw[eT];exact Yt (hp j _ (by omega) (cG (by omega)))
     have hb:=X8 (l:=m.2.take i) (n:=4) (by rw[dc]; omega) h5
     have hb2:(120:Nat) ^ 4=207360000:=by decide
     refine .inr ⟨fun j y hj hy=>?_,?_⟩
     ·rcases dg j i with h|h
      ·exact hp j y h hy
      ·have:j=i:=by omega
       subst this;rw[hx] at hy; cases hy;exact he
     ·rw[ae9 (Yt he) (by omega),Ë hi (by omega),N5 hx]
    ·refine .inl ?_;rw[Ú (by simp[ine,he]),ab3 hx hp he]
   ·try dsimp only
    unfold qV;rw[Ý,Jk fun j y hy=>hp j y (List.getElem?_eq_some_iff.1 hy).1 hy,List.take_length];dsimp only;rw[Ċ];simp only[igt,decide_eq_true_eq]
    by_cases h:150<zm m.2
    ·rw[if_pos (by omega),if_pos h]
    ·rw[if_neg (by omega),if_neg h]
 ·rw[Ú (by simp[ine,hc]),if_pos hc]
def Sz {α:Type} [DecidableEq α] {l m:List α} (hl:l.length=m.length) (h:Ŋ (fun i a=>if m[i]?=some a then none else some false) 0 l=none):l=m:=by
 have:=i7.1 h;refine List.ext_getElem hl fun i h1 h2=>?_;have h3:=this i l[i] (cG h1);rw[dw] at h3
 split at h3
 ·rename_i h4;rw[cG h2] at h4;exact(Option.some.inj h4).symm
 ·cases h3
def Sy {α:Type} [DecidableEq α] {l m:List α} {b:Bool} (h:Ŋ (fun i a=>if m[i]?=some a then none else some false) 0 l=some b):b=false∧l≠m:=by
 constructor
 ·have:∀(k:Nat) (x:List α) (b:Bool),Ŋ (fun i a=>if m[i]?=some a then none else some false) k x=some b→b=false:=by
   intro k x
   induction x generalizing k with
   |nil=>intro b h; cases h
   |cons a t ih =>
    intro b h;unfold Ŋ at h
    split at h
    ·rename_i c hc
     split at hc
     ·cases hc
     ·cases hc; cases h; rfl
    ·exact ih _ _ h
  exact this _ _ _ h
 ·intro e;subst e;rw[i7.2 fun j a ha=>by rw[dw,if_pos ha]] at h;cases h
def L9 {l m:List Int} (hn:l.length≤1000000):jp l m=some (decide (l=m)):=by
 unfold jp uM;rw[Ô,Ô]
 by_cases hl:l.length=m.length
 ·rw[Ð (by simp[ine,hl])];refine eN (mu l (fun i a=>if m[i]?=some a then none else some false) some (some true) (fun i a hi ha kn=>?_) (fun kn=>?_)) ?_
  ·try dsimp only
   unfold jY;have hm:m[i]?=some m[i]:=List.getElem?_eq_getElem (by omega);rw[Ï hi,È ha,È hm,Ë hi (by omega),hm,Ċ]
   by_cases h:a=m[i]
   ·simp[ine,h]
   ·have h':¬m[i]=a:=fun e=>h e.symm;simp[ine,h,h']
  ·try dsimp only
   unfold jY;rw[Ý]
  ·cases h:Ŋ (fun i a=>if m[i]?=some a then none else some false) 0 l with
   |none=>simp[Sz hl h]
   |some b =>
    obtain⟨h1,h2⟩:=Sy h;simp[h1,h2]
 ·rw[Ú (by simp[ine]; omega)];have:l≠m:=fun e=>hl (by rw[e]);simp[this]
structure MixOk (b:Ĕ) (x:Mx):Prop where
 day:0≤x.1∧x.1<20000
 len:2≤x.2.length∧x.2.length≤5
 asc:x.2.Pairwise (·<·)
 known:∀l∈x.2,∃g,ö b l=some g∧g.2.1≤x.1
 home:∀l∈x.2,lM b l x.1=none∧lM b l (x.1+1)=none
def Ti {b:Ĕ} {l:List Mx} {i:Nat} {x:Mx} (h:mixE b l i x=0):MixOk b x∧t7 (fun y=>y.1) l i x=false:=by
 unfold mixE at h
 split at h
 ·cases h
 rename_i h1
 split at h
 ·cases h
 rename_i h2
 split at h
 ·cases h
 rename_i h3
 split at h
 ·cases h
 rename_i h4
 split at h
 ·cases h
 rename_i h5
 split at h
 ·cases h
 rename_i h6;simp only[inP,Bool.not_eq_true',Bool.and_eq_false_iff,not_or,Bool.not_eq_false,decide_eq_false_iff_not,Int.not_le,Bool.and_eq_true,decide_eq_true_eq] at h1;simp only[List.any_eq_true,not_exists,not_and,Option.isNone_iff_eq_none] at h3;simp only[List.any_eq_true,not_exists,not_and,bne_iff_ne,ne_eq,Decidable.not_not] at h4;simp only[List.any_eq_true,not_exists,not_and,Bool.or_eq_true,not_or,Option.isSome_iff_ne_none,ne_eq,Decidable.not_not] at h6;refine⟨⟨by omega,by omega,Decidable.not_not.1 h2,fun y hy=>?_,h6⟩,by simpa using h5⟩;obtain⟨g,hg⟩:=Option.ne_none_iff_exists'.1 (h3 y hy);refine⟨g,hg,?_⟩;have:=h4 y hy;unfold GB at this;rw[hg] at this;dsimp only at this
 split at this
 ·cases this
 ·omega
structure MOk (m:ņ):Prop where
 good:Ξ m.1
 n4:m.2.length≤4
 mixE:∀i x,m.2[i]?=some x→mixE m.1 m.2 i x=0
 prod:zm m.2≤150
def ĩ (m:ņ):ę m=0↔MOk m:=by
 unfold ę;constructor
 ·intro h
  split at h
  ·rename_i h1; exact absurd h h1
  rename_i h1
  split at h
  ·cases h
  rename_i h2
  cases hm:On m.1 m.2 with
  |some e =>
   rw[hm] at h;dsimp only at h;rw[On] at hm
   have key:∀(l:List Mx) (k:Nat) (e:Int),Ŋ (fun i x=>Vq (mixE m.1 m.2 i x)) k l=some e→e≠0:=by
    intro l
    induction l with
    |nil=>intro k e h; cases h
    |cons y l ih =>
     intro k e h;rw[Ŋ] at h
     by_cases hz:mixE m.1 m.2 k y=0
     ·rw[hz] at h;exact ih (k+1) e h
     ·simp only[Vq,if_neg hz,Option.some.injEq] at h;rw[←h]; exact hz
   exact absurd h (key _ _ _ hm)
  |none =>
   rw[hm] at h;dsimp only at h
   split at h
   ·cases h
   rename_i h3;refine⟨(ś _).1 (Decidable.not_not.1 h1),by omega,fun i x hx=>?_,by omega⟩;have:=(i7.1 hm) i x hx;rw[Nat.zero_add] at this;unfold Vq at this
   split at this
   ·assumption
   ·cases this
 ·intro h;rw[if_neg (by simp[(ś _).2 h.good]),if_neg (by have:=h.n4; omega),Jk h.mixE];dsimp only;rw[if_neg (by have:=h.prod; omega)]
section
variable {m:ņ}
def MOk.mix (h:MOk m) {x:Mx} (hx:x∈m.2):MixOk m.1 x:=by
 obtain⟨i,hi,rfl⟩:=cT.1 hx;exact(Ti (h.mixE i _ (cG hi))).1
def MOk.days (h:MOk m):m.2.Pairwise fun a b=>a.1<b.1:=(IG (fun y:Mx=>y.1) m.2).1 fun i x hx=>(Ti (h.mixE i x hx)).2
def MOk.len5 (h:MOk m):∀x∈m.2,x.2.length≤5:=fun x hx=>(h.mix hx).len.2
def MOk.in_ (h:MOk m):In m.1:=⟨h.good.size,fun g hg=>by have:=(h.good.gaugeR hg).2.1; unfold I64; omega⟩
end
def Yb {l:List Int} {i:Nat} (hi:i<l.length):(l[i]::(l.take i++l.drop (i+1))).Perm l:=by
 have h:l=l.take i++l[i]::l.drop (i+1):=by rw[←dF hi,dQ]
 exact List.Perm.trans (List.perm_middle.symm) (by rw[←h])
def Ih:∀{n:Nat} {l x:List Int},l.length=n→(x∈Ii n l↔x.Perm l)
 |0,l,x,h=>by
  have:l=[]:=cY.1 h;subst this;simp[Ii]
 |n+1,l,x,h=>by
  rw[Ii,if_neg (by omega)];simp only[dv,gj,dt];constructor
  ·rintro⟨i,hi,y,hy,rfl⟩;have hy:=(Ih (n:=n) (by simp; omega)).1 hy;rw[eE,cG hi];exact(hy.cons _).trans (Yb hi)
  ·intro hp
   cases x with
   |nil=>have:=hp.length_eq; simp at this; omega
   |cons a x =>
    have ha:a∈l:=hp.subset (by simp);obtain⟨i,hi,rfl⟩:=cT.1 ha;refine⟨i,hi,x,(Ih (n:=n) (by simp; omega)).2 ?_,by rw[eE,cG hi]; rfl⟩;exact List.Perm.cons_inv (hp.trans (Yb hi).symm)
def Rq {α β:Type} (f:α→List β) (n:Nat):∀l:List α,(∀a∈l,(f a).length=n)→(l.flatMap f).length=l.length*n
 |[],_=>by simp
 |a::l,h=>by
  rw[dG,cM,h a (by simp),Rq f n l fun b hb=>h b (dl _ hb),cX,Nat.succ_mul]; omega
def Yp:∀{n:Nat} {l:List Int},l.length=n→(Ii n l).length=W7 n
 |0,_,_=>rfl
 |n+1,l,h=>by
  rw[Ii,if_neg (by omega),Rq _ (W7 n) _ fun i hi=>by rw[dA]; exact Yp (by simp at hi ⊢; omega),fP,W7,h,Nat.mul_comm]
def Ew:∀{ms:List Mx} {w:Way},w∈jN ms↔Ė ms w
 |[],[]=>by simp[jN,Ė]
 |[],_::_=>by simp[jN,Ė]
 |m::ms,[]=>by simp[jN,Ė]
 |m::ms,l::ls=>by
  simp only[jN,dv,dt,Ė];constructor
  ·rintro⟨x,hx,y,hy,e⟩;cases e;exact⟨(Ih rfl).1 hx,Ew.1 hy⟩
  ·intro⟨h1,h2⟩;exact⟨l,(Ih rfl).2 h1,ls,Ew.2 h2,rfl⟩
def LJ:∀ms:List Mx,(jN ms).length=zm ms
 |[]=>rfl
 |m::ms=>by rw[jN,Rq _ (zm ms) _ fun x _=>by rw[dA,LJ],Yp rfl,zm]
def Œ (ms:List Mx):List Way:=Ļ (Mg ms) (jN ms)
def aaa {α:Type} {k k':α→Int} {x:α} {l:List α} (hx:k x=k' x) (h:∀y∈l,k y=k' y):aab k x l=aab k' x l:=by
 induction l with
 |nil=>rfl
 |cons y l ih =>
  unfold aab;rw[hx,h y (by simp),ih fun z hz=>h z (List.mem_cons_of_mem _ hz)]
def K9 {α:Type} {k k':α→Int}:∀{l:List α},(∀y∈l,k y=k' y)→Ļ k l=Ļ k' l
 |[],_=>rfl
 |x::l,h=>by
  have hl:=K9 fun y hy=>h y (dl x hy);show aab k x (Ļ k l)=aab k' x (Ļ k' l);rw[hl];exact aaa (h x (by simp)) fun y hy=>h y (dl _ ((Ō (key:=k') l).mem.1 hy))
def pb {ms:List Mx} {w:Way}:w∈Œ ms↔Ė ms w:=by
 rw[Œ,(Ō (jN ms)).mem,Ew]
def aa0 (ms:List Mx):(Œ ms).length=zm ms:=by rw[Œ,(Ō (jN ms)).length,LJ]
section
variable {m:ņ} {ρ:Type}
def MOk.wgt (h:MOk m) {w:Way} (hw:Ė m.2 w):ĵ m w=some (Mg m.2 w) :=
 aaZ hw (by have:=h.n4; omega) fun x hx=>by have:=h.len5 x hx; omega
def Iv {α:Type} {f:List α→α→(List α→Option ρ)→Option ρ} (h:∀v y kn,v.length≤1000000→f v y kn=kn (v++[y])):∀{xs:List α} {v:List α} {K:List α→Option ρ},v.length+xs.length≤1000000→yd f xs v K=K (v++xs)
 |[],v,K,_=>by simp[yd]
 |x::xs,v,K,hl=>by
  simp only[cX] at hl;rw[yd,h v x _ (by omega),Iv h (by simp; omega)]; simp
def adf (h:MOk m):mz m.2=some (jN m.2):=by
 unfold mz;rw[ý];simp only[Bool.and_eq_true,decide_eq_true_eq,List.all_eq_true];exact⟨by have:=h.n4; omega,fun x hx=>by have:=h.len5 x hx; omega⟩
def RB (h:MOk m):(jN m.2).length≤150:=by rw[LJ]; exact h.prod
def Sr (h:MOk m):Ķ (jN m.2) (Ù (jN m.2)) m=some (Œ m.2,m):=by
 have h2:∀w∈jN m.2,ĵ m w=some (Mg m.2 w):=fun w hw=>h.wgt (Ew.1 hw)
 have h3:∀w∈jN m.2,đ m w=Mg m.2 w:=fun w hw=>by unfold đ; rw[h2 w hw]; rfl
 rw[Ô,abk (fun w hw=>by rw[h2 w hw,h3 w hw]) (by have:=RB h; omega),K9 h3]; rfl
def IM (h:MOk m):rE m=some (Œ m.2):=by
 unfold rE PU;have hl:=RB h;rw[adf h,À,Iv (fun v y kn hv=>by unfold Bi; rw[ý (Õ (by simp; omega))]) (by simp; omega),List.nil_append,Sr h];rfl
def ahD (hs:In m.1) (hn:m.2.length≤1000):Ix m=some (if ę m≠0 then([],ę m) else(Œ m.2,0)):=by
 unfold Ix P9;rw[j7 hs hn,À]
 by_cases hc:ę m=0
 ·rw[Ð (by simp[ine,hc]),if_neg (by simp[hc]),IM ((ĩ m).1 hc)]; rfl
 ·rw[Ú (by simp[ine,hc]),if_pos hc]
end
def Yw {ρ:Type} (n:Nat) (p:Nat→Bool) (K0 K1:Option ρ) {f:Int→(Int→Option ρ)→Option ρ} (h:∀i:Nat,i<n→∀kn,f i kn=if p i then kn ((i:Int)+1) else K0) (hn:∀kn,f n kn=K1):Ê f 0=if (List.range n).all p then K1 else K0:=by
 have:=ľ (List.range n) (fun i=>!p i) (fun _=>K0) K0 K1 (f:=f) (fun _=>rfl) (fun i a hi ha kn=>by
  obtain⟨_,rfl⟩:=cJ.1 ha;rw[fP] at hi;rw[h i hi kn,List.getElem_range]
  cases p i<;>rfl) (fun kn=>by rw[fP]; exact hn kn)
 rw[this]
 have e:(List.range n).any (fun i=>!p i)=!(List.range n).all p:=by rw[List.all_eq_not_any_not]; simp
 rw[e]
 cases(List.range n).all p<;>rfl
def rB:List Mx→Way→Bool
 |[],[]=>true
 |m::ms,l::ls=>decide (ln l=m.2)&&rB ms ls
 |_,_=>false
def OS:∀{ms:List Mx} {w:Way},(∀x∈ms,x.2.Pairwise (·<·))→(rB ms w=true↔Ė ms w)
 |[],[],_=>by simp[rB,Ė]
 |[],_::_,_=>by simp[rB,Ė]
 |_::_,[],_=>by simp[rB,Ė]
 |m::ms,l::ls,h=>by
  rw[rB,Ė,cI,decide_eq_true_eq,OS fun x hx=>h x (dl _ hx)];have hm:=h m (by simp);refine and_congr ⟨fun e=>by rw[←e]; exact(ğ l).symm,fun e=>?_⟩ Iff.rfl;exact List.Perm.eq_of_pairwise (fun a b _ _ h1 h2=>Int.le_antisymm h1 h2) (jm l) (hm.imp fun h=>Int.le_of_lt h) ((ğ l).trans e)
def acz {ms:List Mx} {w:Way} (hl:w.length=ms.length):rB ms w=(List.range ms.length).all fun i=>match ms[i]?,w[i]? with|some m,some l=>decide (ln l=m.2)|_,_=>false:=by
 induction ms generalizing w with
 |nil =>
  have:w=[]:=cY.1 hl;subst this; rfl
 |cons m ms ih =>
  cases w with
  |nil=>simp at hl
  |cons l w =>
   rw[rB,ih (by simpa using hl),cX,List.range_succ_eq_map,fC,List.all_map];rfl
def row_eq {l m:List Int} (hl:l.length=m.length) (hm:m.length≤5):(l.getD 0 0=m.getD 0 0∧l.getD 1 0=m.getD 1 0∧l.getD 2 0=m.getD 2 0∧l.getD 3 0=m.getD 3 0∧l.getD 4 0=m.getD 4 0)↔l=m:=by
 constructor
 ·intro⟨h0,h1,h2,h3,h4⟩;refine List.ext_getElem hl fun i hi hi'=>?_
  have e:∀k:Nat,l.getD k 0=m.getD k 0→k=i→l[i]=m[i]:=fun k hk e=>by
   subst e;simpa[eE,cG hi,cG hi'] using hk
  have:i=0∨i=1∨i=2∨i=3∨i=4:=by omega
  rcases this with h|h|h|h|h
  ·exact e 0 h0 h.symm
  ·exact e 1 h1 h.symm
  ·exact e 2 h2 h.symm
  ·exact e 3 h3 h.symm
  ·exact e 4 h4 h.symm
 ·rintro rfl; simp
def aeV {m:ņ} (h:MOk m) {w:Way} (hw:∀l∈w,l.length≤100000):Ei m w=some (rB m.2 w):=by
 unfold Ei JJ;have hn:=h.n4
 by_cases hl:w.length=m.2.length
 ·rw[Ð (by simp[ine,Ô]; omega),acz hl];have hp:∀i,i<m.2.length→∃x l,m.2[i]?=some x∧w[i]?=some l:=fun i hi=>⟨_,_,cG hi,cG (by omega)⟩;refine eN (Yw m.2.length (fun i=>match m.2[i]?,w[i]? with|some m,some l=>decide (ln l=m.2)|_,_=>false) (some false) (some true) (fun i hi kn=>?_) (fun kn=>?_)) ?_
  ·obtain⟨x,l,hx,hwl⟩:=hp i hi
   try dsimp only
   unfold qM;have hx5:=h.len5 x (List.mem_of_getElem? hx);have hl1:=hw l (List.mem_of_getElem? hwl);rw[Ï (by omega),È hwl,È hx,hx,hwl];dsimp only
   by_cases hll:l.length=x.2.length
   ·rw[Ð (by simp[ine,Ô]; omega)];unfold yO;rw[ý (Õ (by omega)),À,Iv (fun v y kn hv=>by unfold xg; rw[ý (Õ (by simp; omega))]) (by simp; omega),List.nil_append,ý (Õ (by omega))];unfold Eh;rw[À,À,Pp];have hr:=row_eq (l:=ln l) (m:=x.2) (by rw[(ğ l).length_eq]; exact hll) hx5
    by_cases he:ln l=x.2
    ·obtain⟨e0,e1,e2,e3,e4⟩:=hr.2 he;rw[e0,e1,e2,e3,e4,Ð (by simp[yk]),Ó (by omega) (by omega),if_pos (by simpa using he)]
    ·rw[Ú,if_neg (by simpa using he)]
     cases hb:(!((yk ((ln l).getD 0 0) (x.2.getD 0 0))&&((yk ((ln l).getD 1 0) (x.2.getD 1 0))&&((yk ((ln l).getD 2 0) (x.2.getD 2 0))&&((yk ((ln l).getD 3 0) (x.2.getD 3 0))&&((yk ((ln l).getD 4 0) (x.2.getD 4 0))&&true)))))) with
     |true=>rfl
     |false =>
      refine absurd (hr.1 ?_) he;simpa[yk] using hb
   ·rw[Ú (by simp[ine,Ô]; omega),if_neg];intro e;simp only[decide_eq_true_eq] at e;have:=(ğ l).length_eq;rw[e] at this;exact hll this.symm
  ·try dsimp only
   unfold qM;rw[Ð (by simp[ilt,Ô]; omega)]
  ·cases(List.range m.2.length).all (fun i=>match m.2[i]?,w[i]? with|some m,some l=>decide (ln l=m.2)|_,_=>false)<;>rfl
 ·rw[Ú (by simp[ine,Ô]; omega)];congr 1
  symm
  clear hw
  have key:∀{ms:List Mx} {w:Way},w.length≠ms.length→rB ms w=false:=by
   intro ms
   induction ms with
   |nil=>intro w h; cases w with|nil=>exact absurd rfl h|cons _ _=>rfl
   |cons x ms ih =>
    intro w h
    cases w with
    |nil=>rfl
    |cons l w=>rw[rB,ih (by simpa using h),Bool.and_false]
  exact key hl
def L3 (m:ņ) (w:Way):Int:=if ę m≠0 then ę m else if rB m.2 w then 0 else 1
def adR {m:ņ} (hs:In m.1) (hn:m.2.length≤1000) {w:Way} (hw:∀l∈w,l.length≤100000):El m w=some (L3 m w):=by
 unfold El JW L3;rw[j7 hs hn,À]
 by_cases hc:ę m=0
 ·rw[Ð (by simp[ine,hc]),if_neg (by simp[hc]),aeV ((ĩ m).1 hc) hw,À]
  cases rB m.2 w<;>rfl
 ·rw[Ú (by simp[ine,hc]),if_pos hc]
def Xu {m:ņ} {w:Way}:L3 m w=0↔MOk m∧Ė m.2 w:=by
 unfold L3
 by_cases hc:ę m=0
 ·have h:=(ĩ m).1 hc;rw[if_neg (by simp[hc])];have:=OS (w:=w) fun x hx=>(h.mix hx).asc
  cases hi:rB m.2 w with
  |true=>simp[this.1 hi,h]
  |false =>
   exact⟨fun e=>absurd (show(1:Int)=0 from e) (by decide),fun e=>absurd (this.2 e.2) (by simp[hi])⟩
 ·rw[if_pos hc];exact⟨fun e=>absurd e hc,fun⟨e,_⟩=>absurd ((ĩ m).2 e) hc⟩
section
variable {ρ:Type}
def yM {α β:Type} (l:List α) (g:α→β) (K:List β→Option ρ) {f:Int×List β→(Int×List β→Option ρ)→Option ρ}
 (h:∀(i:Nat) (a:α),i<l.length→l[i]?=some a→∀(v:List β) kn,v.length=i→f (i,v) kn=kn ((i:Int)+1,v++[g a])) (hn:∀(v:List β) kn,f (l.length,v) kn=K v):Ê f (0,[])=K (l.map g):=by
 refine ģ l (fun i=>(l.take i).map g) _ rfl (fun i a hi ha kn=>?_) (fun kn=>?_)
 ·rw[h i a hi ha _ kn (by simp; omega),take_succ ha,fg]; rfl
 ·rw[hn,fI]
end
def kD (m:ņ) (w:Way) (d:Int) (l:List Int):List Int:=ln (l.map fun x=>Ŕ m.2 w x d)
def aap (m:ņ) (w:Way) (c:Cmp):Cmp:=(c.1,c.2.1,kD m w c.2.1 c.2.2.1,kD m w c.2.1 c.2.2.2.1,c.2.2.2.2)
def trP (m:ņ) (w:Way):Ĕ :=
 (m.1.1,m.1.2.1,m.1.2.2.1.map (fun u=>(Ŕ m.2 w u.1 u.2,u.2)),m.1.2.2.2.1.map (fun l=>(Ŕ m.2 w l.1 l.2.1.1,l.2)),m.1.2.2.2.2.1.map (aap m w),m.1.2.2.2.2.2.map (fun n=>(Ŕ m.2 w n.1 n.2,n.2)))
section
variable {ρ:Type} {m:ņ} {w:Way}
def MOk.who (h:MOk m) (hw:Ė m.2 w) (x d:Int):sk m w x d=some (Ŕ m.2 w x d) :=
 who_ok hw (by have:=h.n4; omega) (fun y hy=>by have:=h.len5 y hy; omega) x d
def tr_L0 (h:MOk m) (hw:Ė m.2 w) (k0:List (Int×Int)→Option ρ):Ê (fun(v:Int×List (Int×Int)) kk=>jV m w m.1.2.2.1 (Ù m.1.2.2.1) v.1 v.2 (fun a b=>kk (a,b)) k0) ((0:Int),[])=k0 (m.1.2.2.1.map fun u=>(Ŕ m.2 w u.1 u.2,u.2)):=by
 have hn:=h.good.nU
 refine yM m.1.2.2.1 (fun u:Int×Int=>((Ŕ m.2 w u.1 u.2,u.2):Int×Int)) k0 (fun i a hi ha v kn hv=>?_) (fun v kn=>?_)<;>(try dsimp only)<;>unfold jV
 ·rw[Ï hi,È ha,h.who hw,À,ý (Õ (by simp; omega)),Ë hi (by omega)]
 ·rw[Ý]
def tr_L1 (h:MOk m) (hw:Ė m.2 w) (k0:List IH→Option ρ):Ê (fun(v:Int×List IH) kk=>jU m w m.1.2.2.2.1 (Ù m.1.2.2.2.1) v.1 v.2 (fun a b=>kk (a,b)) k0) ((0:Int),[])=k0 (m.1.2.2.2.1.map fun l=>(Ŕ m.2 w l.1 l.2.1.1,l.2)):=by
 have hn:=h.good.nL
 refine yM m.1.2.2.2.1 (fun l:IH=>((Ŕ m.2 w l.1 l.2.1.1,l.2):IH)) k0 (fun i a hi ha v kn hv=>?_) (fun v kn=>?_)<;>(try dsimp only)<;>unfold jU
 ·rw[Ï hi,È ha,h.who hw,À,ý (Õ (by simp; omega)),Ë hi (by omega)]
 ·rw[Ý]
def Cj (h:MOk m) (hw:Ė m.2 w) (d:Int) {l:List Int} (hl:l.length≤1000):i8 l d m w=some (kD m w d l):=by
 unfold i8 pq;rw[yM l (fun x:Int=>(Ŕ m.2 w x d:Int)) (fun z=>á (è z.length) (some (wE z))) (fun i a hi ha v kn hv=>?_) (fun v kn=>?_),ý (Õ (by simp; omega)),Pp]; rfl
 ·try dsimp only
  unfold iO;rw[Ï hi,È ha,h.who hw,À,ý (Õ (by simp; omega)),Ë hi (by omega)]
 ·try dsimp only
  unfold iO;rw[Ý]
def tr_L2 (h:MOk m) (hw:Ė m.2 w) (k0:List Cmp→Option ρ):Ê (fun(v:Int×List Cmp) kk=>jT m w m.1.2.2.2.2.1 (Ù m.1.2.2.2.2.1) v.1 v.2 (fun a b=>kk (a,b)) k0) ((0:Int),[])=k0 (m.1.2.2.2.2.1.map (aap m w)):=by
 have hn:=h.good.nC
 refine yM m.1.2.2.2.2.1 (aap m w) k0 (fun i a hi ha v kn hv=>?_) (fun v kn=>?_)<;>(try dsimp only)<;>unfold jT
 ·obtain⟨p1,p2⟩:=h.good.size.piles a (cP ha);rw[Ï hi,È ha,Cj h hw _ p1,À,Cj h hw _ p2,À,ý (Õ (by simp; omega)),Ë hi (by omega)];rfl
 ·rw[Ý]
def tr_L3 (h:MOk m) (hw:Ė m.2 w) (k0:List (Int×Int)→Option ρ):Ê (fun(v:Int×List (Int×Int)) kk=>jS m w m.1.2.2.2.2.2 (Ù m.1.2.2.2.2.2) v.1 v.2 (fun a b=>kk (a,b)) k0) ((0:Int),[])=k0 (m.1.2.2.2.2.2.map fun n=>(Ŕ m.2 w n.1 n.2,n.2)):=by
 have hn:=h.good.nK
 refine yM m.1.2.2.2.2.2 (fun n:Int×Int=>((Ŕ m.2 w n.1 n.2,n.2):Int×Int)) k0 (fun i a hi ha v kn hv=>?_) (fun v kn=>?_)<;>(try dsimp only)<;>unfold jS
 ·rw[Ï hi,È ha,h.who hw,À,ý (Õ (by simp; omega)),Ë hi (by omega)]
 ·rw[Ý]
def qp (h:MOk m) (hw:Ė m.2 w):ix m w=some (trP m w):=by
 have h1:=h.good.nG;unfold ix uA trP;rw[ý (Õ (by omega)),tr_L0 h hw,tr_L1 h hw,tr_L2 h hw,tr_L3 h hw]
end
def Rk {l:List Int} {x:Int} (h:x∈l):∃k,l.findIdx? (·==x)=some k∧l[k]?=some x:=by
 cases hf:l.findIdx? (·==x) with
 |none =>
  have:=dE.1 hf x h;simp at this
 |some k =>
  obtain⟨hk,he,_⟩:=dH.1 hf;exact⟨k,rfl,by rw[cG hk]; simpa using he⟩
def D8 {l:List Int} {x:Int} (h:x∉l):l.findIdx? (·==x)=none:=by
 rw[dE];intro y hy;simp only[beq_eq_false_iff_ne];exact fun e=>h (e▸hy)
def af9 {l:List Int} (hn:l.Nodup) {k:Nat} {x:Int} (h:l[k]?=some x):l.findIdx? (·==x)=some k:=by
 obtain⟨j,hj,hx⟩:=Rk (cP h);obtain⟨h1,e1⟩:=cJ.1 h;obtain⟨h2,e2⟩:=cJ.1 hx;rw[hj,(List.getElem_inj hn).1 (e2.trans e1.symm)]
def XS {d d0:Int} {l k:List Int} (hl:l.Nodup) (hk:k.Nodup) (hp:l.Perm k) (x:Int):stp d (d0,k) l (stp d (d0,l) k x)=x:=by
 unfold stp
 by_cases hd:d0<d
 ·simp only[if_pos hd]
  by_cases hx:x∈k
  ·obtain⟨i,h1,h2⟩:=Rk hx;rw[h1];dsimp only
   have hi:i<l.length:=by rw[hp.length_eq]; exact(cJ.1 h2).1
   have e:l[i]?=some (l.getD i 0):=by rw[eE,cG hi]; rfl
   rw[af9 hl e];dsimp only;rw[List.getD_eq_getElem?_getD,h2]; rfl
  ·rw[D8 hx];dsimp only;rw[D8 fun h=>hx (hp.subset h)]
 ·simp only[if_neg hd]
def VA {d:Int} {m:Mx} {l:List Int} (hp:l.Perm m.2) (x:Int):stp d m l x=x∨(m.1<d∧x∈m.2∧stp d m l x∈m.2):=by
 unfold stp
 by_cases hd:m.1<d
 ·simp only[if_pos hd]
  by_cases hx:x∈l
  ·obtain⟨i,h1,h2⟩:=Rk hx;rw[h1];dsimp only
   have hi:i<m.2.length:=by rw[←hp.length_eq]; exact(cJ.1 h2).1
   exact .inr ⟨hd,hp.subset hx,by rw[eE,cG hi]; exact fj hi⟩
  ·rw[D8 hx];exact .inl rfl
 ·simp only[if_neg hd];exact .inl trivial
def YE:List Mx→Way→Int→Int→Int
 |m::ms,l::ls,x,d=>YE ms ls (stp d (m.1,l) m.2 x) d
 |_,_,x,_=>x
def adT {l:List Int} (h:l.Pairwise (·<·)):l.Nodup:=h.imp fun h=>Int.ne_of_lt h
def Pk:∀{ms:List Mx} {w:Way},Ė ms w→(∀x∈ms,x.2.Nodup)→∀x d,Ŕ ms w (YE ms w x d) d=x
 |[],[],_,_,x,d=>rfl
 |m::ms,l::ls,h,hn,x,d=>by
  rw[YE,Ŕ,Pk h.2 fun y hy=>hn y (dl _ hy)];exact XS (d0:=m.1) (h.1.nodup_iff.2 (hn m (by simp))) (hn m (by simp)) h.1 x
def K6:∀{ms:List Mx} {w:Way},Ė ms w→(∀x∈ms,x.2.Nodup)→∀x d,YE ms w (Ŕ ms w x d) d=x
 |[],[],_,_,x,d=>rfl
 |m::ms,l::ls,h,hn,x,d=>by
  rw[YE,Ŕ];have:=XS (d:=d) (d0:=m.1) (l:=m.2) (k:=l) (hn m (by simp)) (h.1.nodup_iff.2 (hn m (by simp))) h.1.symm (Ŕ ms ls x d);rw[show stp d (m.1,l) m.2 (stp d m l (Ŕ ms ls x d))=_ from this];exact K6 h.2 (fun y hy=>hn y (dl _ hy)) x d
def IK:∀{ms:List Mx} {w:Way} (Q:Int→Prop) {d:Int},Ė ms w→(∀m∈ms,m.1<d→∀x∈m.2,Q x)→∀{x:Int},Q x→Q (Ŕ ms w x d)
 |[],[],Q,d,_,_,x,hx=>hx
 |m::ms,l::ls,Q,d,h,hm,x,hx=>by
  have:=IK (x:=x) Q h.2 (fun y hy=>hm y (dl _ hy)) hx;rw[Ŕ];rcases VA (d:=d) h.1 (Ŕ ms ls x d) with e|⟨e1,_,e2⟩
  ·rw[e]; exact this
  ·exact hm m (by simp) e1 _ e2
def yz:∀{ms:List Mx} {w:Way} {d:Int},Ė ms w→∀{x:Int},(∀m∈ms,m.1<d→x∉m.2)→Ŕ ms w x d=x
 |[],[],d,_,x,_=>rfl
 |m::ms,l::ls,d,h,x,hm=>by
  rw[Ŕ,yz h.2 fun y hy=>hm y (dl _ hy)];rcases VA (d:=d) h.1 x with e|⟨e1,e2,_⟩
  ·exact e
  ·exact absurd e2 (hm m (by simp) e1)
def IL:∀{ms:List Mx} {w:Way} {d e:Int},Ė ms w→ms.Pairwise (fun a b=>a.1<b.1)→d≤e→∀{x:Int},(∀m∈ms,d≤m.1→m.1<e→x∉m.2)→Ŕ ms w x e=Ŕ ms w x d
 |[],[],d,e,_,_,_,x,_=>rfl
 |m::ms,l::ls,d,e,h,hs,hde,x,hm=>by
  rw[dz] at hs;rcases gq m.1 d with hlt|hge
  ·rw[Ŕ,Ŕ,IL h.2 hs.2 hde fun y hy=>hm y (dl _ hy)]
   have e1:∀y,stp e m l y=stp d m l y:=fun y=>by unfold stp; rw[if_pos hlt,if_pos (by omega)]
   exact e1 _
  ·have e1:Ŕ (m::ms) (l::ls) x e=x:=yz h fun y hy hye=>by
    rcases cO.1 hy with rfl|hy'
    ·exact hm y (by simp) hge hye
    ·exact hm y hy (by have:=hs.1 y hy'; omega) hye
   have e2:Ŕ (m::ms) (l::ls) x d=x:=yz h fun y hy hyd=>by
    rcases cO.1 hy with rfl|hy'
    ·omega
    ·have:=hs.1 y hy'; omega
   rw[e1,e2]
def sG {b:Ĕ} (hi:b.2.1.Pairwise fun a b=>a.1<b.1) {id day:Int}:mW (œ b) id day=0↔∃g,ö b id=some g∧g.2.1≤day:=by
 rw[←VD hi];unfold GB
 cases ö b id with
 |none=>simp
 |some g =>
  dsimp only
  by_cases h:day<g.2.1
  ·rw[if_pos h]; simp; omega
  ·rw[if_neg h]; simp; omega
def Ce {b:Ĕ} (hi:b.2.1.Pairwise fun a b=>a.1<b.1) {id day:Int}:Gv (œ b) id day=0↔IE day=true∧∃g,ö b id=some g∧g.2.1≤day:=by
 unfold Gv
 cases IE day with
 |false=>simp
 |true=>simp[sG hi]
def Uv {b:Ĕ} (hi:b.2.1.Pairwise fun a b=>a.1<b.1) {i:Nat} {l:IH}:Rb b (œ b) i l=0↔lZ l.2.1 0 20000=true∧inP l.2.2 0 1048576=true∧(∃g,ö b l.1=some g∧g.2.1≤l.2.1.1) ∧
 (∀x∈b.2.2.2.1.take i,x.1=l.1→¬(x.2.1.1≤l.2.1.2∧l.2.1.1≤x.2.1.2))∧∀u∈b.2.2.1,u.1=l.1→inP u.2 l.2.1.1 l.2.1.2=false:=by
 unfold Rb;rw[←sG hi]
 cases lZ l.2.1 0 20000 with
 |false=>simp
 |true =>
  cases inP l.2.2 0 1048576 with
  |false=>simp
  |true =>
   by_cases h:mW (œ b) l.1 l.2.1.1=0
   ·simp only[h,dB,cV,if_false,bne_self_eq_false,true_and]
    split
    ·rename_i h1;simp only[dj,cI,beq_iff_eq,decide_eq_true_eq] at h1;obtain⟨x,hx,e1,e2⟩:=h1;exact⟨fun e=>absurd e (by decide),fun e=>absurd e2 (e.1 x hx e1)⟩
    ·rename_i h1;simp only[dj,cI,beq_iff_eq,decide_eq_true_eq,not_exists,not_and] at h1
     split
     ·rename_i h2;simp only[dj,cI,beq_iff_eq] at h2;obtain⟨u,hu,e1,e2⟩:=h2;exact⟨fun e=>absurd e (by decide),fun e=>by have:=e.2 u hu e1; rw[e2] at this; cases this⟩
     ·rename_i h2;simp only[dj,cI,beq_iff_eq,not_exists,not_and] at h2;exact⟨fun _=>⟨fun x hx e ⟨p,q⟩=>h1 x hx e p q,fun u hu e=>by simpa using h2 u hu e⟩,fun _=>rfl⟩
   ·simp[h]
def N6 {b:Ĕ} (hi:b.2.1.Pairwise fun a b=>a.1<b.1) {c:Cmp}:wJ b (œ b) c=0↔(∀x∈c.2.2.1++c.2.2.2.1,(∃g,ö b x=some g∧g.2.1≤c.2.1)∧lM b x c.2.1=none) ∧
 (ÿ c.2.2.1 c.2.2.2.1).length≤1∧(ÿ c.2.2.2.1 c.2.2.1).length≤1∧(ÿ c.2.2.1 c.2.2.2.1).length+(ÿ c.2.2.2.1 c.2.2.1).length≠0:=by
 unfold wJ;constructor
 ·intro h
  split at h
  ·cases h
  rename_i h1
  split at h
  ·cases h
  rename_i h2
  split at h
  ·cases h
  rename_i h3
  split at h
  ·cases h
  split at h
  ·cases h
  split at h
  ·cases h
  simp only[dj,not_exists,not_and,beq_iff_eq] at h1 h2;simp only[dj,not_exists,not_and,Option.isSome_iff_ne_none,ne_eq,Decidable.not_not] at h3;refine⟨fun x hx=>⟨(sG hi).1 ?_,h3 x hx⟩,by omega,by omega,by omega⟩;rcases Jr (œ b) x c.2.1 with e|e|e
  ·exact e
  ·exact absurd e (h2 x hx)
  ·exact absurd e (h1 x hx)
 ·intro⟨h1,h2,h3,h4⟩;have hz:∀x∈c.2.2.1++c.2.2.2.1,mW (œ b) x c.2.1=0:=fun x hx=>(sG hi).2 (h1 x hx).1;rw[if_neg,if_neg,if_neg,if_neg (by omega),if_neg (by omega),if_neg h4]
  ·simp only[dj,not_exists,not_and,Option.isSome_iff_ne_none,ne_eq,Decidable.not_not];exact fun x hx=>(h1 x hx).2
  ·simp only[dj,not_exists,not_and,beq_iff_eq]
   exact fun x hx e=>by rw[hz x hx] at e; cases e
  ·simp only[dj,not_exists,not_and,beq_iff_eq]
   exact fun x hx e=>by rw[hz x hx] at e; cases e
def Gp {b:Ĕ} {x d:Int}:lM b x d=none↔∀l∈b.2.2.2.1,l.1=x→inP d l.2.1.1 l.2.1.2=false:=by
 unfold lM;rw[List.find?_eq_none];simp
def wK {m:ņ} {w:Way} {d:Int} {l:List Int} {y:Int}:y∈kD m w d l↔∃x∈l,Ŕ m.2 w x d=y:=by
 unfold kD;rw[(ğ _).mem_iff,List.mem_map]
section
variable {m:ņ} {w:Way}
def MOk.nd (h:MOk m):∀x∈m.2,x.2.Nodup:=fun x hx=>adT (h.mix hx).asc
def MOk.inj (h:MOk m) (hw:Ė m.2 w) {d x y:Int} (e:Ŕ m.2 w x d=Ŕ m.2 w y d):x=y:=by
 rw[←K6 hw h.nd x d,e,K6 hw h.nd]
def MOk.whoG (h:MOk m) (hw:Ė m.2 w) {d x:Int} (hx:∃g,ö m.1 x=some g∧g.2.1≤d):∃g,ö m.1 (Ŕ m.2 w x d)=some g∧g.2.1≤d :=
 IK (fun y=>∃g,ö m.1 y=some g∧g.2.1≤d) hw (fun y hy hd z hz=>by
  obtain⟨g,h1,h2⟩:=(h.mix hy).known z hz
  exact⟨g,h1,by omega⟩) hx
def MOk.made (h:MOk m) (hw:Ė m.2 w) {x:Int} {g:Ā} (hg:ö m.1 x=some g):Ŕ m.2 w x g.2.1=x :=
 yz hw fun y hy hd hx=>by
  obtain⟨g',h1,h2⟩:=(h.mix hy).known x hx;rw[hg] at h1; cases h1;omega
def MOk.loan (h:MOk m) (hw:Ė m.2 w) {l:IH} (hl:l∈m.1.2.2.2.1) {d:Int} (hd:inP d l.2.1.1 l.2.1.2=true):Ŕ m.2 w l.1 d=Ŕ m.2 w l.1 l.2.1.1:=by
 simp only[inP,cI,decide_eq_true_eq] at hd;refine IL hw h.days hd.1 fun y hy h1 h2 hx=>?_;have:=(Gp.1 ((h.mix hy).home _ hx).1) l hl rfl;simp only[inP,gQ,decide_eq_false_iff_not] at this;omega
def acw (h:MOk m) (hw:Ė m.2 w) (d:Int) (A B:List Int):(ÿ (kD m w d A) (kD m w d B)).Perm ((ÿ A B).map fun x=>Ŕ m.2 w x d):=by
 unfold ÿ;refine((ğ _).filter _).trans ?_;rw[List.filter_map];refine List.Perm.of_eq ?_;congr 1;refine List.filter_congr fun x hx=>?_;simp only[Function.comp];congr 1;rw[Bool.eq_iff_iff,List.contains_iff_mem,List.contains_iff_mem,wK];exact⟨fun⟨y,hy,e⟩=>h.inj hw e▸hy,fun hy=>⟨x,hy,rfl⟩⟩
def X9 (h:MOk m) (hw:Ė m.2 w) {d:Int} {l:List Int} (hp:wL l=true) (hk:∀x∈l,∃g,ö m.1 x=some g∧g.2.1≤d):wL (kD m w d l)=true:=by
 obtain⟨h1,h2,h3⟩:=(I7 l).1 hp;refine(I7 _).2 ⟨fun y hy=>?_,?_,by unfold kD; rw[(ğ _).length_eq,List.length_map]; exact h3⟩
 ·obtain⟨x,hx,rfl⟩:=wK.1 hy;obtain⟨g,hg,_⟩:=h.whoG hw (hk x hx);obtain⟨g1,g2⟩:=ii hg;have:=(h.good.gaugeR g1).2.2.2.1;rw[←g2]; exact this
 ·have hnd:(kD m w d l).Nodup:=by
   unfold kD;rw[(ğ _).nodup_iff];exact List.pairwise_map.2 (h2.imp fun hlt e=>by have:=h.inj hw e; omega)
  exact((jm _).and hnd).imp fun⟨a,b⟩=>Int.lt_iff_le_and_ne.2 ⟨a,b⟩
def agy (h:MOk m) (hw:Ė m.2 w) {x d:Int} (ha:lM m.1 x d=none):lM (trP m w) (Ŕ m.2 w x d) d=none:=by
 rw[Gp];intro l' hl' e;obtain⟨l,hl,rfl⟩:=dt.1 hl'
 cases hd:inP d l.2.1.1 l.2.1.2 with
 |false=>rfl
 |true =>
  rw[←h.loan hw hl hd] at e;have:=Gp.1 ha l hl (h.inj hw e);rw[hd] at this; cases this
def ut {b:Ĕ} (hi:b.2.1.Pairwise fun a b=>a.1<b.1):(Ò b).Nodup:=by
 unfold Ò List.Nodup;rw[List.pairwise_flatMap];refine⟨fun g _=>List.pairwise_map.2 ((vE b g).imp fun h e=>by cases e; omega),hi.imp fun hlt x hx y hy e=>?_⟩;obtain⟨d,_,rfl⟩:=List.mem_map.1 hx;obtain⟨d',_,rfl⟩:=List.mem_map.1 hy;simp only[Prod.mk.injEq] at e;omega
def mU {b:Ĕ} {x d:Int}:(x,d)∈Ò b↔∃g∈b.2.1,g.1=x∧d∈ä b g:=by
 unfold Ò;simp only[List.mem_flatMap,List.mem_map];constructor
 ·rintro⟨g,hg,d',hd,e⟩;cases e;exact⟨g,hg,rfl,hd⟩
 ·rintro⟨g,hg,rfl,hd⟩;exact⟨g,hg,d,hd,rfl⟩
def zc (h:MOk m) (hw:Ė m.2 w) {d:Int} {A:List Int} {x:Int}:(kD m w d A).contains (Ŕ m.2 w x d)=A.contains x:=by
 rw[gb,fo,fo,wK];exact⟨fun⟨y,hy,e⟩=>h.inj hw e▸hy,fun hy=>⟨x,hy,rfl⟩⟩
def abc (h:MOk m) (hw:Ė m.2 w) {x d:Int} (hn:(x,d)∈Ò m.1):(Ŕ m.2 w x d,d)∈Ò (trP m w):=by
 obtain⟨g,hg,rfl,hd⟩:=mU.1 hn;have hgo:=vv h.good.ids hg;obtain⟨g',e1,_⟩:=h.whoG hw (x:=g.1) (d:=d) ⟨g,hgo,(h.good.day hg hd).1⟩;obtain⟨e2,e3⟩:=ii e1;refine mU.2 ⟨g',e2,e3,Ż.2 ?_⟩;rcases Ż.1 hd with rfl|⟨c,hc,e4,rfl⟩|⟨n,hnn,e4,rfl⟩
 ·rw[h.made hw hgo,hgo] at e1;cases e1;exact .inl rfl
 ·refine .inr (.inl ⟨aap m w c,dt.2 ⟨c,hc,rfl⟩,?_,rfl⟩);rw[e3];show(kD m w c.2.1 c.2.2.1).contains _≠(kD m w c.2.1 c.2.2.2.1).contains _;rw[zc h hw,zc h hw];exact e4
 ·exact .inr (.inr ⟨_,dt.2 ⟨n,hnn,rfl⟩,by rw[e3,e4],rfl⟩)
def Gx (h:MOk m) (hw:Ė m.2 w) {y d:Int} (hn:(y,d)∈Ò (trP m w)):∃x,Ŕ m.2 w x d=y∧(x,d)∈Ò m.1:=by
 obtain⟨g,hg,rfl,hd⟩:=mU.1 hn;have hg:g∈m.1.2.1:=hg;have hgo:=vv h.good.ids hg;have hx:Ŕ m.2 w (YE m.2 w g.1 d) d=g.1:=Pk hw h.nd _ _
 have fin:∀x,Ŕ m.2 w x d=g.1→(∃g',ö m.1 x=some g')→(∀g':Ā,g'.1=x→d∈ä m.1 g')→∃x,Ŕ m.2 w x d=g.1∧(x,d)∈Ò m.1:=fun x e ⟨g',e1⟩ e2=>by
  obtain⟨e3,e4⟩:=ii e1;exact⟨x,e,mU.2 ⟨g',e3,e4,e2 g' e4⟩⟩
 rcases Ż.1 hd with e|⟨c',hc',e4,e5⟩|⟨n',hn',e4,e5⟩
 ·subst e;exact⟨g.1,h.made hw hgo,mU.2 ⟨g,hg,rfl,rK g⟩⟩
 ·obtain⟨c,hc,rfl⟩:=dt.1 hc';have e5:c.2.1=d:=e5;subst e5;have e4:(kD m w c.2.1 c.2.2.1).contains g.1≠(kD m w c.2.1 c.2.2.2.1).contains g.1:=e4;rw[←hx,zc h hw,zc h hw] at e4;refine fin _ hx ?_ fun g' e=>Ż.2 (.inr (.inl ⟨c,hc,by rw[e]; exact e4,rfl⟩))
  have:YE m.2 w g.1 c.2.1∈c.2.2.1++c.2.2.2.1:=by
   rw[cN,←fo,←fo]
   cases h1:c.2.2.1.contains (YE m.2 w g.1 c.2.1) with
   |true=>exact .inl rfl
   |false =>
    rw[h1] at e4;exact .inr (by simpa using e4)
  obtain⟨⟨g',e,_⟩,_⟩:=h.good.pile hc this;exact⟨g',e⟩
 ·obtain⟨n,hnl,rfl⟩:=dt.1 hn';have e5:n.2=d:=e5;have e4:Ŕ m.2 w n.1 n.2=g.1:=e4;subst e5;obtain⟨_,g',e,_⟩:=(Ce h.good.ids).1 (h.good.looks n hnl);exact fin n.1 e4 ⟨g',e⟩ fun g'' e=>Ż.2 (.inr (.inr ⟨n,hnl,e.symm,rfl⟩))
def wm (m:ņ) (w:Way) (n:Int×Int):Int×Int:=(Ŕ m.2 w n.1 n.2,n.2)
def abd (h:MOk m):(trP m w).2.1.Pairwise fun a b=>a.1<b.1:=h.good.ids
def afW (h:MOk m) (hw:Ė m.2 w):(Ò (trP m w)).length=(Ò m.1).length:=by
 have h1:(Ò (trP m w)).length≤((Ò m.1).map (wm m w)).length:=d8 (ut (abd h)) fun n hn=>by
  obtain⟨x,e,hx⟩:=Gx (y:=n.1) (d:=n.2) h hw hn;exact dt.2 ⟨(x,n.2),hx,Prod.ext e rfl⟩
 have h2:((Ò m.1).map (wm m w)).length≤(Ò (trP m w)).length:=by
  have hnd:((Ò m.1).map (wm m w)).Nodup:=by
   refine List.pairwise_map.2 ((ut h.good.ids).imp ?_);intro a b hne e;unfold wm at e;simp only[Prod.mk.injEq] at e;obtain⟨e1,e2⟩:=e;rw[e2] at e1;exact hne (Prod.ext (h.inj hw e1) e2)
  refine d8 hnd fun n hn=>?_;obtain⟨⟨x,d⟩,hx,rfl⟩:=dt.1 hn;exact abc h hw hx
 rw[dA] at h1 h2;omega
def rP (h:MOk m) (hw:Ė m.2 w):Ξ (trP m w):=by
 have hg:=h.good;have hids:=abd (w:=w) h;have hsh:œ (trP m w)=œ m.1:=rfl;have hgo:∀x,ö (trP m w) x=ö m.1 x:=fun _=>rfl;have hlen:=afW h hw;refine⟨hg.film,hg.nG,by simpa[trP] using hg.nU,by simpa[trP] using hg.nL,by simpa[trP] using hg.nC,by simpa[trP] using hg.nK,hg.gauge,hids,?_,?_,?_,?_,by rw[hlen]; exact hg.nodes,by rw[hlen]; simpa[trP] using hg.links⟩
 ·intro u' hu';obtain⟨u,hu,rfl⟩:=dt.1 hu';obtain⟨e1,e2⟩:=(Ce hg.ids).1 (hg.uses u hu);exact(Ce hids).2 ⟨e1,h.whoG hw e2⟩
 ·intro i l' hl'
  obtain⟨l,hl,rfl⟩:∃l,m.1.2.2.2.1[i]?=some l∧(Ŕ m.2 w l.1 l.2.1.1,l.2)=l':=by
   have:(m.1.2.2.2.1.map (fun l:IH=>(Ŕ m.2 w l.1 l.2.1.1,l.2)))[i]?=some l':=hl';rw[eA] at this
   cases hx:m.1.2.2.2.1[i]? with
   |none=>rw[hx] at this; cases this
   |some l=>rw[hx] at this; exact⟨l,rfl,by simpa using this⟩
  have hlm:=cP hl;obtain⟨e1,e2,e3,e4,e5⟩:=(Uv hg.ids).1 (hg.loans i l hl);refine(Uv hids).2 ⟨e1,e2,h.whoG hw e3,fun x' hx' ex hov=>?_,fun u' hu' eu=>?_⟩
  ·have hx':x'∈(m.1.2.2.2.1.map (fun l:IH=>(Ŕ m.2 w l.1 l.2.1.1,l.2))).take i:=hx';rw[←List.map_take] at hx';obtain⟨x,hx,rfl⟩:=List.mem_map.1 hx';have hxm:=List.mem_of_mem_take hx;have s1:=(oU hg hxm).1;have s2:=(oU hg hlm).1;dsimp only at ex hov
   have d1:inP (max x.2.1.1 l.2.1.1) x.2.1.1 x.2.1.2=true:=by simp[inP]; omega
   have d2:inP (max x.2.1.1 l.2.1.1) l.2.1.1 l.2.1.2=true:=by simp[inP]; omega
   rw[←h.loan hw hxm d1,←h.loan hw hlm d2] at ex;exact e4 x hx (h.inj hw ex) hov
  ·obtain⟨u,hu,rfl⟩:=List.mem_map.1 hu';dsimp only at eu ⊢
   cases hd:inP u.2 l.2.1.1 l.2.1.2 with
   |false=>rfl
   |true =>
    rw[←h.loan hw hlm hd] at eu;have:=e5 u hu (h.inj hw eu);rw[hd] at this; cases this
 ·intro i c' hc'
  obtain⟨c,hc,rfl⟩:∃c,m.1.2.2.2.2.1[i]?=some c∧aap m w c=c':=by
   have:(m.1.2.2.2.2.1.map (aap m w))[i]?=some c':=hc';rw[eA] at this
   cases hx:m.1.2.2.2.2.1[i]? with
   |none=>rw[hx] at this; cases this
   |some l=>rw[hx] at this; exact⟨l,rfl,by simpa using this⟩
  have hcm:=cP hc;obtain⟨n1,n2,n3,n4,n5,n6,n7⟩:=(kJ c).1 (hg.nums hcm);have hp:=(N6 hg.ids).1 (hg.pilesOf hcm);have hk:∀x∈c.2.2.1++c.2.2.2.1,∃g,ö m.1 x=some g∧g.2.1≤c.2.1:=fun x hx=>(hp.1 x hx).1;have hnum:ZO (aap m w c)=true:=(kJ _).2 ⟨n1,n2,n3,n4,n5,X9 h hw n6 fun x hx=>hk x (dD _ hx),X9 h hw n7 fun x hx=>hk x (dC _ hx)⟩;have l1:=(acw h hw c.2.1 c.2.2.1 c.2.2.2.1).length_eq;have l2:=(acw h hw c.2.1 c.2.2.2.1 c.2.2.1).length_eq;rw[dA] at l1 l2
  have hpi:wJ (trP m w) (œ (trP m w)) (aap m w c)=0:=by
   refine(N6 hids).2 ⟨fun y hy=>?_,?_,?_,?_⟩
   ·have hy:y∈kD m w c.2.1 c.2.2.1++kD m w c.2.1 c.2.2.2.1:=hy
    obtain⟨x,hx,rfl⟩:∃x∈c.2.2.1++c.2.2.2.1,Ŕ m.2 w x c.2.1=y:=by
     rcases cN.1 hy with hy|hy
     ·obtain⟨x,hx,e⟩:=wK.1 hy;exact⟨x,dD _ hx,e⟩
     ·obtain⟨x,hx,e⟩:=wK.1 hy;exact⟨x,dC _ hx,e⟩
    exact⟨h.whoG hw (hk x hx),agy h hw (hp.1 x hx).2⟩
   ·show(ÿ (kD m w c.2.1 c.2.2.1) (kD m w c.2.1 c.2.2.2.1)).length≤1;rw[l1]; exact hp.2.1
   ·show(ÿ (kD m w c.2.1 c.2.2.2.1) (kD m w c.2.1 c.2.2.1)).length≤1;rw[l2]; exact hp.2.2.1
   ·show(ÿ (kD m w c.2.1 c.2.2.1) (kD m w c.2.1 c.2.2.2.1)).length+(ÿ (kD m w c.2.1 c.2.2.2.1) (kD m w c.2.1 c.2.2.1)).length≠0;rw[l1,l2]; exact hp.2.2.2
  have h0:=hg.compares i c hc;unfold oH at h0 ⊢;rw[hg.nums hcm] at h0;rw[hnum,hpi]
  have ht:((trP m w).2.2.2.2.1.take i).any (fun x=>x.1==(aap m w c).1)=(m.1.2.2.2.2.1.take i).any fun x=>x.1==c.1:=by
   show((m.1.2.2.2.2.1.map (aap m w)).take i).any _=_;rw[←List.map_take,List.any_map]; rfl
  rw[ht];simp only[dB,cV,if_false] at h0 ⊢
  split at h0
  ·cases h0
  ·rename_i h1; rw[if_neg h1]
 ·intro n' hn';obtain⟨n,hn,rfl⟩:=dt.1 hn';obtain⟨e1,e2⟩:=(Ce hg.ids).1 (hg.looks n hn);exact(Ce hids).2 ⟨e1,h.whoG hw e2⟩
end
section
variable {L:List Lk} {N:Nat}
def RX (h:jr L N):mR ((N:Int),L)=some (kI L N,0):=by
 have h2:=h.n60;unfold mR sa;rw[lH h,À];dsimp only;rw[Ð (by rfl),uk h.links h.n1 (by omega),À]
 cases kI L N<;>rfl
end
def XB (x y:List Int):List Int×List Int×Int:=if !wL x then([],[],1) else if !wL y then([],[],1) else(ÿ x y,ÿ y x,0)
def ad2 {x y:List Int} (hx:x.length≤100000) (hy:y.length≤100000):oZ x y=some (XB x y):=by
 unfold oZ FX XB;rw[D4 (by omega),À]
 cases wL x with
 |false=>rfl
 |true =>
  rw[D4 (by omega),À]
  cases wL y with
  |false=>rfl
  |true =>
   rw[xY (by omega) (by omega),À,xY (by omega) (by omega),À];rfl
def less (b:Ĕ) (ids:List Int):Ĕ:=(b.1,b.2.1,b.2.2.1,b.2.2.2.1,b.2.2.2.2.1.filter (fun c=>!ids.contains c.1),b.2.2.2.2.2)
section
variable {b:Ĕ} {ids:List Int}
def act (h:t8 b):t8 (less b ids) :=
 ⟨h.gauges,h.uses,h.loans,cZ (dY _ _) h.compares,h.looks,fun c hc=>h.piles c (dT.1 hc).1⟩
def Ξ.distinct (h:Ξ b):b.2.2.2.2.1.Pairwise fun a c=>a.1≠c.1:=by
 rw[List.pairwise_iff_getElem];intro i j hi hj hij he;have hz:=h.compares j _ (List.getElem?_eq_getElem hj);unfold oH at hz
 have hany:(b.2.2.2.2.1.take j).any (fun x=>x.1==b.2.2.2.2.1[j].1)=true:=by
  rw[dj];exact⟨b.2.2.2.2.1[i],cT.2 ⟨i,by rw[dc]; omega,by rw[eT]⟩,by simp[he]⟩
 rw[hany] at hz
 (repeat' split at hz)<;>first|omega|simp_all
def acN {α β:Type} (f g:α→List β):∀l:List α,(∀a∈l,(f a).length≤(g a).length)→(l.flatMap f).length≤(l.flatMap g).length
 |[],_=>cH _
 |a::l,h=>by
  rw[dG,dG,cM,cM];have:=h a (by simp);have:=acN f g l fun c hc=>h c (by simp[hc]);omega
def lt_len:∀{x y:List Int},x.Pairwise (·<·)→(∀a∈x,a∈y)→x.length≤y.length:=by
 intro x y hx h;exact(d8 (hx.imp fun h=>by omega) h)
def Ξ.less (h:Ξ b) (ids:List Int):Ξ (less b ids):=by
 have hsub:∀c∈(ZzM.less b ids).2.2.2.2.1,c∈b.2.2.2.2.1:=fun c hc=>(dT.1 hc).1;have hlen:(ZzM.less b ids).2.2.2.2.1.length≤b.2.2.2.2.1.length:=dY _ _
 have hdays:∀g,(ä (ZzM.less b ids) g).length≤(ä b g).length:=fun g=>lt_len (vE _ g) fun d hd=>by
  rcases Ż.1 hd with e|⟨c,hc,h1,h2⟩|hn
  ·exact Ż.2 (.inl e)
  ·exact Ż.2 (.inr (.inl ⟨c,hsub c hc,h1,h2⟩))
  ·exact Ż.2 (.inr (.inr hn))
 have hnodes:(Ò (ZzM.less b ids)).length≤(Ò b).length:=acN _ _ _ fun g _=>by rw[dA,dA]; exact hdays g
 have hN:=h.nodes;have hC:=h.nC;refine⟨h.film,h.nG,h.nU,h.nL,Nat.le_trans hlen h.nC,h.nK,h.gauge,h.ids,h.uses,h.loans,fun i c hc=>?_,h.looks,Nat.le_trans hnodes hN,by omega⟩;have hcm:=hsub c (List.mem_of_getElem? hc);obtain⟨j,hj,hjc⟩:=List.mem_iff_getElem.1 hcm;have hz:=h.compares j c (by rw[List.getElem?_eq_getElem hj,hjc]);unfold oH at hz ⊢
 split at hz
 ·omega
 rename_i h1
 split at hz
 ·omega
 rw[if_neg h1,if_neg ?_]
 ·exact hz
 ·intro hany;obtain⟨x,hx,he⟩:=dj.1 hany;obtain⟨k,hk,hkx⟩:=cT.1 hx;rw[dc] at hk;rw[eT] at hkx;obtain⟨hi,hic⟩:=cJ.1 hc;have hp:=du.1 ((h.distinct.sublist List.filter_sublist:(ZzM.less b ids).2.2.2.2.1.Pairwise fun a c=>a.1≠c.1)) k i (by omega) hi (by omega);rw[hkx,hic] at hp;exact hp (eq_of_beq he)
end
abbrev zC:Cmp:=((0:Int),(0:Int),[],[],(0:Int),(0:Int),(0:Int),(0:Int))
section
variable {a:List Cmp} {b:List Int}
def FZ (b:List Int) (a:List Cmp):List Cmp:=a.filter fun c=>!b.contains c.1
def Xd (ha:a.length≤1000000) (hb:b.length≤1000000) (K:List Cmp→Option (Ĕ×Int)):∀z:Nat,z<a.length→FZ b (a.take z)=a.take z→(∀c,a[z]?=some c→b.contains c.1=true) →
 Ê (fun(v21:Int×Int×List Cmp) kk25=>Υ b v21.1 v21.2.1 v21.2.2 (fun u22 u23 u24=>kk25 (u22,u23,u24)) (fun z19=>á ((ile (0:Int) z19.1)&&(ile z19.1 (í z19.2))) (á ((ile (0:Int) z19.1)&&(ile z19.1 (í (List.take (Int.toNat z19.1) z19.2++List.replicate (List.length z19.2-(Int.toNat z19.1)) zC++List.drop ((Int.toNat z19.1)+(List.length z19.2-(Int.toNat z19.1))) z19.2)))) (K (List.take (Int.toNat z19.1) (List.drop 0 (List.take (Int.toNat z19.1) z19.2++List.replicate (List.length z19.2-(Int.toNat z19.1)) zC++List.drop ((Int.toNat z19.1)+(List.length z19.2-(Int.toNat z19.1))) z19.2))))))) ((z:Int),((z:Int)+1),a)=K (FZ b a):=by
 intro z hz hp hc
 refine ė (fun x:Int×Int×List Cmp=>∃i j:Nat,x.1=i∧x.2.1=j∧i<j∧j≤a.length∧x.2.2.length=a.length∧x.2.2.take i=FZ b (a.take j)∧x.2.2.drop j=a.drop j) (fun x=>a.length-x.2.1.toNat) ?_
  ⟨z,z+1,rfl,by simp,by omega,by omega,rfl,?_,rfl⟩
 ·rintro⟨x1,x2,s⟩ ⟨i,j,h1,h2,hij,hja,hl,ht,hd⟩;simp only at h1 h2 hl ht hd;subst h1 h2;rcases dg j a.length with hj|hj
  ·refine .inr ?_
   have hsj:s[j]?=some a[j]:=by
    have h3:(s.drop j)[0]?=(a.drop j)[0]?:=by rw[hd]
    rw[dW,dW] at h3;simpa[cG hj] using h3
   have hjs:j<s.length:=by omega
   have hos:í s=((s.length:Nat):Int):=rfl
   have hta:FZ b (a.take (j+1))=FZ b (a.take j)++if b.contains a[j].1 then[] else[a[j]]:=by
    rw[take_succ (cG hj),FZ,FZ,eF];congr 1
    cases h:b.contains a[j].1 with
    |true=>simp only[dU,h,dB,cV,if_false,eP,if_true]
    |false=>simp only[dU,h,fc,cV,if_false,eP,if_true]
   cases h:b.contains a[j].1 with
   |true =>
    refine⟨(i,(j:Int)+1,s),⟨i,j+1,rfl,by simp,by omega,by omega,hl,?_,?_⟩,by simp; omega,fun kn=>?_⟩
    ·rw[hta,h]; simpa using ht
    ·have:=congrArg (List.drop 1) hd;simpa[fm,gX] using this
    ·try dsimp only
     unfold Υ;rw[Ï hjs,hos,Ĭ hjs,ð hsj,Ĩ hb,À,h];simp only[Bool.not_true,é];rw[Ë hjs (by omega)]
   |false =>
    have his:i<s.length:=by omega
    refine⟨((i:Int)+1,(j:Int)+1,s.set i a[j]),⟨i+1,j+1,by simp,by simp,by omega,by omega,by simpa using hl,?_,?_⟩,by simp; omega,fun kn=>?_⟩
    ·show List.take (i+1) (s.set i a[j])=_;rw[hta,h,List.take_add_one,fB,gB (cH i),ht];simp[his]
    ·show List.drop (j+1) (s.set i a[j])=_;rw[gE (by omega)];have:=congrArg (List.drop 1) hd;simpa[fm,gX] using this
    ·try dsimp only
     unfold Υ;rw[Ï hjs,hos,Ĭ hjs,ð hsj,Ĩ hb,À,h];simp only[Bool.not_false,mQ];rw[Ĭ his,ð (List.getElem?_eq_getElem his),Ë his (by omega),Ë hjs (by omega),Int.toNat_natCast]
  ·refine .inl fun kn=>?_
   have hje:j=s.length:=by omega
   try dsimp only
   unfold Υ;rw[hje,Ý];dsimp only
   have g1:((ile (0:Int) (i:Int))&&(ile (i:Int) (í s)))=true:=by simp[ile,í]; omega
   rw[ý g1]
   have g2:((ile (0:Int) (i:Int))&&(ile (i:Int) (í (List.take (Int.toNat (i:Int)) s++List.replicate (List.length s-(Int.toNat (i:Int))) zC++List.drop ((Int.toNat (i:Int))+(List.length s-(Int.toNat (i:Int)))) s))))=true:=by
    simp[ile,í]; omega
   rw[ý g2,cW,gJ,cR,eY (by simp; omega),List.take_take,Nat.min_self,ht];rw[dV (by omega)]
 ·show List.take z a=FZ b (a.take (z+1));have hz':a[z]?=some a[z]:=cG hz;rw[take_succ hz',FZ,eF];have hc:=hc _ hz'
  have:List.filter (fun c:Cmp=>!b.contains c.1) [a[z]]=[]:=by simp only[dU,hc,dB,cV,if_false,eP]
  rw[this,dh];exact hp.symm
end
def RU (b:Ĕ) (ids:List Int):Ĕ×Int:=if Ġ b≠0 then(Va,Ġ b) else(less b ids,0)
def chkK (b:Ĕ) (y:List Cmp):Option (Ĕ×Int):=Ä (ĭ (b.1,b.2.1,b.2.2.1,b.2.2.2.1,y,b.2.2.2.2.2)) fun r20=>ifb (ine r20 (0:Int)) (some ((((0:Int),(0:Int)),[],[],[],[],[]),r20)) (some ((b.1,b.2.1,b.2.2.1,b.2.2.2.1,y,b.2.2.2.2.2),(0:Int)))
def aftK (b:Ĕ) (ids:List Int) (z10:Int):Option (Ĕ×Int):=ifb (ieq z10 (-1:Int)) (chkK b b.2.2.2.2.1) (ck (z10+(1:Int)) fun n12=>Ê (fun(v21:Int×Int×List Cmp) kk25=>Υ ids v21.1 v21.2.1 v21.2.2 (fun u22 u23 u24=>kk25 (u22,u23,u24)) (fun z19=>á ((ile (0:Int) z19.1)&&(ile z19.1 (í z19.2))) (á ((ile (0:Int) z19.1)&&(ile z19.1 (í (List.take (Int.toNat z19.1) z19.2++List.replicate (List.length z19.2-(Int.toNat z19.1)) zC++List.drop ((Int.toNat z19.1)+(List.length z19.2-(Int.toNat z19.1))) z19.2)))) (chkK b (List.take (Int.toNat z19.1) (List.drop 0 (List.take (Int.toNat z19.1) z19.2++List.replicate (List.length z19.2-(Int.toNat z19.1)) zC++List.drop ((Int.toNat z19.1)+(List.length z19.2-(Int.toNat z19.1))) z19.2))))))) (z10,n12,b.2.2.2.2.1))
set_option maxHeartbeats 1000000 in
def aaH {b:Ĕ} (h:In b) {ids:List Int} (hids:ids.length≤1000):vB b ids=some (RU b ids):=by
 have hs:=h.size;have h1:=hs.gauges; have h2:=hs.uses; have h3:=hs.loans; have h4:=hs.compares; have h5:=hs.looks;unfold vB BU RU;rw[rN hs h.num,À]
 by_cases hc:Ġ b=0
 ·have hg:=(ś b).1 hc;rw[Ð (by simp[ine,hc]),Õ (by omega),Am.iff_true,Õ (by omega),Am.iff_true,Õ (by omega),Am.iff_true,Õ (by omega),Am.iff_true,Õ (by omega),Am.iff_true,if_neg (show ¬(Ġ b≠0) from fun h=>h hc)]
  have fin:∀y:List Cmp,y=FZ ids b.2.2.2.2.1→chkK b y=some (less b ids,0):=by
   intro y hy;subst hy;unfold chkK;rw[show ĭ (b.1,b.2.1,b.2.2.1,b.2.2.2.1,FZ ids b.2.2.2.2.1,b.2.2.2.2.2)=ĭ (less b ids) from rfl,rN (act hs) h.num,À,(ś _).2 (hg.less ids)];rfl
  refine ģ b.2.2.2.2.1 (fun _=>b.2.2.2.2.1) _ rfl (fun i d hi hd kn=>?_) (fun kn=>?_)
  ·dsimp only;unfold mP;obtain⟨p1,p2⟩:=hs.piles d (List.mem_of_getElem? hd)
   have e1:b.2.2.2.2.1.set i d=b.2.2.2.2.1:=by
    obtain⟨h,rfl⟩:=cJ.1 hd;exact List.set_getElem_self h
   rw[Ï hi,Ĭ hi,ð hd,Õ (by omega),Am.iff_true,Õ (by omega),Am.iff_true,Ĭ hi,ð hd,cW];rw[show(d.1,d.2.1,d.2.2.1,d.2.2.2)=d from rfl,e1,Ĭ hi,iN hd,Ë hi (by omega)];rw[show(d.1,d.2.1,d.2.2.1,d.2.2.2.1,d.2.2.2.2)=d from rfl,e1]
  ·try dsimp only
   unfold mP;rw[Ý];dsimp only;refine Eq.trans (i5 b.2.2.2.2.1 (fun c=>ids.contains c.1) (aftK b ids) (chkK b b.2.2.2.2.1) (fun i c hi hcc kn'=>?_) (fun kn'=>?_)) ?_
   ·try dsimp only
    unfold mO;rw[Ï hi,Ĭ hi,ð hcc,Ĩ (by omega),À,Ë hi (by omega),Ċ];rfl
   ·try dsimp only
    unfold mO;rw[Ý];rfl
   ·cases hf:b.2.2.2.2.1.findIdx? (fun c=>ids.contains c.1) with
    |none =>
     refine fin _ ?_;rw[FZ,fG.2];intro x hx;have:=dE.1 hf x hx;rw[this]; rfl
    |some z =>
     obtain⟨hz,hcz,hlt⟩:=dH.1 hf
     have h1:ieq (z:Int) (-1)=false:=by simp[ieq]
     try dsimp only
     unfold aftK;rw[Ð h1,Ë hz (by omega),Xd (by omega) (by omega) (chkK b) z hz ?_ ?_]
     ·exact fin _ rfl
     ·rw[FZ,fG];intro x hx;obtain⟨j,hj,rfl⟩:=cT.1 hx;rw[dc] at hj;rw[eT];have:=hlt j (by omega);simpa using this
     ·intro c hcc;rw[cG hz] at hcc;rw[←Option.some.inj hcc]; exact hcz
 ·rw[Ú (by simp[ine,hc]),if_pos hc];rfl
section
variable {ρ α:Type}
def ac4 (z0:α) (K:List α→Option ρ) (z:Int×List α):Option ρ :=
 á ((ile (0:Int) z.1)&&(ile z.1 (í z.2))) (á ((ile (0:Int) z.1)&&(ile z.1 (í (List.take (Int.toNat z.1) z.2++List.replicate (List.length z.2-(Int.toNat z.1)) z0++List.drop ((Int.toNat z.1)+(List.length z.2-(Int.toNat z.1))) z.2))))
  (K (List.take (Int.toNat z.1) (List.drop 0 (List.take (Int.toNat z.1) z.2++List.replicate (List.length z.2-(Int.toNat z.1)) z0++List.drop ((Int.toNat z.1)+(List.length z.2-(Int.toNat z.1))) z.2)))))
def Xc (z0:α) (K:List α→Option ρ) {i:Nat} {s:List α} (h:i≤s.length):ac4 z0 K ((i:Int),s)=K (s.take i):=by
 unfold ac4
 have g1:((ile (0:Int) (i:Int))&&(ile (i:Int) (í s)))=true:=by simp[ile,í]; omega
 dsimp only;rw[ý g1]
 have g2:((ile (0:Int) (i:Int))&&(ile (i:Int) (í (List.take (Int.toNat (i:Int)) s++List.replicate (List.length s-(Int.toNat (i:Int))) z0++List.drop ((Int.toNat (i:Int))+(List.length s-(Int.toNat (i:Int)))) s))))=true:=by
  simp[ile,í]; omega
 rw[ý g2,cW,gJ,cR,eY (by simp; omega),List.take_take,Nat.min_self]
def aam (p:α→Bool) {a:List α} {F:Int→Int→List α→(Int→Int→List α→Option ρ)→Option ρ} {k0:Int×List α→Option ρ} {K:List α→Option ρ}
 (hF:∀(i j:Nat) (s:List α) (x:α),s.length=a.length→i<j→j<s.length→s[j]?=some x→x∈a→∀kn,F i j s kn=if p x then kn ((i:Int)+1) ((j:Int)+1) (s.set i x) else kn i ((j:Int)+1) s)
 (hE:∀(i:Nat) (s:List α) kn,i≤s.length→s.length=a.length→F i s.length s kn=k0 ((i:Int),s)) (hk:∀(i:Nat) (s:List α),i≤s.length→k0 ((i:Int),s)=K (s.take i))
 {z:Nat} (hz:z<a.length) (hp:∀x∈a.take z,p x=true) (hc:∀c,a[z]?=some c→p c=false) :
 Ê (fun(v:Int×Int×List α) kk=>F v.1 v.2.1 v.2.2 (fun x y w=>kk (x,y,w))) ((z:Int),((z:Int)+1),a)=K (a.filter p):=by
 refine ė (fun x:Int×Int×List α=>∃i j:Nat,x.1=i∧x.2.1=j∧i<j∧j≤a.length∧x.2.2.length=a.length∧x.2.2.take i=(a.take j).filter p∧x.2.2.drop j=a.drop j) (fun x=>a.length-x.2.1.toNat) ?_
  ⟨z,z+1,rfl,by simp,by omega,by omega,rfl,?_,rfl⟩
 ·rintro⟨x1,x2,s⟩ ⟨i,j,h1,h2,hij,hja,hl,ht,hd⟩;simp only at h1 h2 hl ht hd;subst h1 h2;rcases dg j a.length with hj|hj
  ·refine .inr ?_
   have hsj:s[j]?=some a[j]:=by
    have h3:(s.drop j)[0]?=(a.drop j)[0]?:=by rw[hd]
    rw[dW,dW] at h3;simpa[cG hj] using h3
   have hta:(a.take (j+1)).filter p=(a.take j).filter p++if p a[j] then[a[j]] else[]:=by
    rw[take_succ (cG hj),eF];congr 1
    cases h:p a[j]<;>simp[h]
   have hdd:s.drop (j+1)=a.drop (j+1):=by
    have:=congrArg (List.drop 1) hd;simpa[fm,gX] using this
   have hf:=hF i j s a[j] hl hij (by omega) hsj (fj hj)
   cases h:p a[j] with
   |false =>
    refine⟨(i,(j:Int)+1,s),⟨i,j+1,rfl,by simp,by omega,by omega,hl,?_,hdd⟩,by simp; omega,fun kn=>by dsimp only; rw[hf,h]; rfl⟩;rw[hta,h]; simpa using ht
   |true =>
    have his:i<s.length:=by omega
    refine⟨((i:Int)+1,(j:Int)+1,s.set i a[j]),⟨i+1,j+1,by simp,by simp,by omega,by omega,by simpa using hl,?_,?_⟩,by simp; omega,fun kn=>by dsimp only; rw[hf,h]; rfl⟩
    ·show List.take (i+1) (s.set i a[j])=_;rw[hta,h,List.take_add_one,fB,gB (cH i),ht];simp[his]
    ·show List.drop (j+1) (s.set i a[j])=_;rw[gE (by omega)];exact hdd
  ·refine .inl fun kn=>?_
   have hje:j=s.length:=by omega
   try dsimp only
   rw[hje,hE i s _ (by omega) hl,hk i s (by omega),ht,dV (by omega)]
 ·show List.take z a=(a.take (z+1)).filter p;have hz':a[z]?=some a[z]:=cG hz;rw[take_succ hz',eF,fG.2 hp];simp[hc _ hz']
def Xb (p:α→Bool) {a:List α} {F1:Int→(Int→Option ρ)→Option ρ} {F:Int→Int→List α→(Int→Int→List α→Option ρ)→Option ρ} {k0:Int×List α→Option ρ} {K:List α→Option ρ} {kf:Int→Option ρ} {kend:Option ρ}
 (h1:∀(i:Nat) (x:α),i<a.length→a[i]?=some x→∀kn,F1 i kn=if !p x then kf i else kn ((i:Int)+1)) (h1e:∀kn,F1 a.length kn=kend) (hend:kend=K a)
 (hkf:∀z:Nat,z<a.length→kf z=Ê (fun(v:Int×Int×List α) kk=>F v.1 v.2.1 v.2.2 (fun x y w=>kk (x,y,w))) ((z:Int),((z:Int)+1),a))
 (hF:∀(i j:Nat) (s:List α) (x:α),s.length=a.length→i<j→j<s.length→s[j]?=some x→x∈a→∀kn,F i j s kn=if p x then kn ((i:Int)+1) ((j:Int)+1) (s.set i x) else kn i ((j:Int)+1) s)
 (hE:∀(i:Nat) (s:List α) kn,i≤s.length→s.length=a.length→F i s.length s kn=k0 ((i:Int),s)) (hk:∀(i:Nat) (s:List α),i≤s.length→k0 ((i:Int),s)=K (s.take i)):Ê F1 0=K (a.filter p):=by
 rw[i5 a (fun x=>!p x) kf kend h1 h1e]
 cases hf:a.findIdx? (fun x=>!p x) with
 |none =>
  dsimp only;rw[hend,List.filter_eq_self.2];intro x hx;have:=List.findIdx?_eq_none_iff.1 hf x hx;simpa using this
 |some z =>
  obtain⟨hz,hcz,hlt⟩:=List.findIdx?_eq_some_iff_getElem.1 hf;dsimp only;rw[hkf z hz];refine aam p hF hE hk hz (fun x hx=>?_) (fun c hc=>?_)
  ·obtain⟨j,hj,rfl⟩:=cT.1 hx;rw[dc] at hj;rw[eT];have:=hlt j (by omega);simpa using this
  ·rw[cG hz] at hc;cases hc;simpa using hcz
end
def lL (m:ņ) (w:Way):Bool:=kI (i6 (trP m w)) ((Ò (trP m w)).length+1)
def gZ (m:ņ):List Way:=(Œ m.2).filter (lL m)
def OZ (m:ņ):Way×Bool:=match (Œ m.2).find? (lL m) with|some w=>(w,true)|none=>([],false)
section
variable {m:ņ} {w:Way} {ρ:Type}
def In_tr (h:MOk m) (hw:Ė m.2 w):In (trP m w):=⟨(rP h hw).size,h.in_.num⟩
def L8 (h:MOk m) (hw:Ė m.2 w):iG (trP m w)=some ((((Ò (trP m w)).length:Int)+1,i6 (trP m w)),Pn (trP m w),0):=by
 rw[Vh (In_tr h hw),RW,if_neg (by simp[(ś _).2 (rP h hw)])]
def vC (h:MOk m) (hw:Ė m.2 w):Λ m w=some (lL m w):=by
 unfold Λ xh;rw[qp h hw,À,L8 h hw,À];have:=RX (rP h hw).sys;simp only[Int.natCast_add,Int.cast_ofNat_Int] at this;rw[this]; rfl
def rO {i:Nat} (hi:(Œ m.2)[i]?=some w):Ė m.2 w:=pb.1 (cP hi)
def ug (h:MOk m):(Œ m.2).length≤150:=by rw[aa0]; exact h.prod
def acH (h:MOk m):Ek m=some (gZ m):=by
 unfold Ek P2;have hl:=RB h;have hl2:=ug h;have hm:((((m.1.1.1,m.1.1.2),m.1.2.1,m.1.2.2.1,m.1.2.2.2.1,m.1.2.2.2.2.1,m.1.2.2.2.2.2),m.2):ņ)=m:=rfl;rw[adf h,À,Iv (fun v y kn hv=>by unfold Bu; rw[ý (Õ (by simp; omega))]) (by simp; omega),List.nil_append,Sr h,À]
 refine Xb (a:=Œ m.2) (lL m) (K:=fun l=>some l) (k0:=ac4 [] fun l=>some l) (kf:=fun z6=>ifb (ieq z6 (-1:Int)) (some (Œ m.2)) (ck (z6+(1:Int)) fun n7=>Ê (fun(v15:Int×Int×List Way) kk19=>mg m.1.1.1 m.1.1.2 m.1.2.1 m.1.2.2.1 m.1.2.2.2.1 m.1.2.2.2.2.1 m.1.2.2.2.2.2 m.2 v15.1 v15.2.1 v15.2.2 (fun u16 u17 u18=>kk19 (u16,u17,u18)) (ac4 [] fun l=>some l)) (z6,n7,Œ m.2)))
  (F:=fun a b c kn=>mg m.1.1.1 m.1.1.2 m.1.2.1 m.1.2.2.1 m.1.2.2.2.1 m.1.2.2.2.2.1 m.1.2.2.2.2.2 m.2 a b c kn (ac4 [] fun l=>some l)) (kend:=some (Œ m.2)) (fun i x hi hx kn=>?_) (fun kn=>?_) rfl (fun z hz=>?_) (fun i j s x hs hij hj hx hxa kn=>?_) (fun i s kn hi hs=>?_) (fun i s hi=>Xc _ _ hi)
 ·try dsimp only
  unfold uC;rw[Ï hi,Ĭ hi,ð hx,hm,vC h (rO hx),À,Ë hi (by omega),Ċ];rfl
 ·try dsimp only
  unfold uC;rw[Ý]
 ·rw[Ð (by simp[ieq]),Ë hz (by omega)]
 ·try dsimp only
  unfold mg;rw[Ï hj,show í s=((s.length:Nat):Int) from rfl,Ĭ hj,ð hx,hm,vC h (pb.1 hxa),À];cases lL m x
  ·simp only[fc,dB,é,cV,if_false];rw[Ë hj (by omega)]
  ·simp only[fc,dB,mQ,if_true];rw[Ĭ (by omega),ð (cG (by omega)),Ë (show i<s.length by omega) (by omega),Ë hj (by omega),cW]
 ·try dsimp only
  unfold mg;rw[Ý]
def rJ (h:MOk m):ü m=some (OZ m):=by
 unfold ü uD;have hl2:=ug h;have hm:((((m.1.1.1,m.1.1.2),m.1.2.1,m.1.2.2.1,m.1.2.2.2.1,m.1.2.2.2.2.1,m.1.2.2.2.2.2),m.2):ņ)=m:=rfl;rw[IM h,À];refine Eq.trans (mu (Œ m.2) (fun _ w=>if lL m w then some (w,true) else none) (fun z=>some (z.1,z.2)) (some ([],false)) (fun i x hi hx kn=>?_) (fun kn=>?_)) ?_
 ·try dsimp only
  unfold jW;rw[Ï hi,È hx,hm,vC h (rO hx),À,Ë hi (by omega),Ċ]
  cases lL m x<;>rfl
 ·try dsimp only
  unfold jW;rw[Ý]
 ·rw[G9,OZ]
  have key:∀l:List Way,l.findSome? (fun w=>if lL m w then some (w,true) else none)=(l.find? (lL m)).map fun w=>(w,true):=by
   intro l
   induction l with
   |nil=>rfl
   |cons x l ih =>
    rw[fW,fw]
    cases h:lL m x with
    |true=>rfl
    |false=>exact ih
  rw[key]
  cases(Œ m.2).find? (lL m)<;>rfl
def ky (m:ņ):Bool:=(Œ m.2).any (lL m)
def vw (m:ņ):(OZ m).2=ky m:=by
 unfold OZ ky
 cases h:(Œ m.2).find? (lL m) with
 |none =>
  symm
  rw[dN]
  exact fun x hx=>by simpa using(eo.1 h) x hx
 |some w =>
  symm
  rw[dj];exact⟨w,fq h,f5 h⟩
def UH (m:ņ):gZ m=[]↔ky m=false:=by
 unfold gZ ky;rw[List.filter_eq_nil_iff,List.any_eq_false]
def All_ok (hs:In m.1) (hn:m.2.length≤1000):Rt m=some (if ę m≠0 then([],ę m) else(gZ m,0)):=by
 unfold Rt Wm;rw[j7 hs hn,À]
 by_cases hc:ę m=0
 ·rw[Ð (by simp[ine,hc]),if_neg (by simp[hc]),acH ((ĩ m).1 hc)]; rfl
 ·rw[Ú (by simp[ine,hc]),if_pos hc]
def xZ (m:ņ):Way×Int:=if ę m≠0 then([],ę m) else if ky m then((OZ m).1,0) else([],5)
def Ma (hs:In m.1) (hn:m.2.length≤1000):tR m=some (xZ m):=by
 unfold tR J1 xZ;rw[j7 hs hn,À]
 by_cases hc:ę m=0
 ·rw[Ð (by simp[ine,hc]),if_neg (by simp[hc]),rJ ((ĩ m).1 hc),À,vw]
  cases ky m<;>rfl
 ·rw[Ú (by simp[ine,hc]),if_pos hc]
def ahe (m:ņ) (p:Cmp→Bool):ņ:=((m.1.1,m.1.2.1,m.1.2.2.1,m.1.2.2.2.1,m.1.2.2.2.2.1.filter p,m.1.2.2.2.2.2),m.2)
def sF (m:ņ) (ids:List Int):ņ:=ahe m fun c=>ids.contains c.1
def VT (hn:m.1.2.2.2.2.1.length≤1000) {ids:List Int} (hi:ids.length≤1000000):yT m ids=some (sF m ids):=by
 unfold yT PV;rw[ý (Õ (by omega))]
 refine Xb (a:=m.1.2.2.2.2.1) (fun c=>ids.contains c.1) (K:=fun l=>some ((m.1.1,m.1.2.1,m.1.2.2.1,m.1.2.2.2.1,l,m.1.2.2.2.2.2),m.2)) (k0:=ac4 zC fun l=>some ((m.1.1,m.1.2.1,m.1.2.2.1,m.1.2.2.2.1,l,m.1.2.2.2.2.2),m.2))
  (kf:=fun z4=>ifb (ieq z4 (-1:Int)) (some m) (ck (z4+(1:Int)) fun n5=>Ê (fun(v13:Int×Int×List Cmp) kk17=>mf ids v13.1 v13.2.1 v13.2.2 (fun u14 u15 u16=>kk17 (u14,u15,u16)) (ac4 zC fun l=>some ((m.1.1,m.1.2.1,m.1.2.2.1,m.1.2.2.2.1,l,m.1.2.2.2.2.2),m.2))) (z4,n5,m.1.2.2.2.2.1)))
  (F:=fun a b c kn=>mf ids a b c kn (ac4 zC fun l=>some ((m.1.1,m.1.2.1,m.1.2.2.1,m.1.2.2.2.1,l,m.1.2.2.2.2.2),m.2))) (kend:=some m) (fun i x hi' hx kn=>?_) (fun kn=>?_) rfl (fun z hz=>?_) (fun i j s x hs hij hj hx hxa kn=>?_) (fun i s kn hi hs=>?_) (fun i s hi=>Xc _ _ hi)
 ·try dsimp only
  unfold uB;rw[Ï hi',Ĭ hi',ð hx,Ĩ hi,À,Ë hi' (by omega),Ċ];rfl
 ·try dsimp only
  unfold uB;rw[Ý]
 ·rw[Ð (by simp[ieq]),Ë hz (by omega)]
 ·try dsimp only
  unfold mf;rw[Ï hj,show í s=((s.length:Nat):Int) from rfl,Ĭ hj,ð hx,Ĩ hi,À];cases ids.contains x.1
  ·simp only[fc,dB,é,cV,if_false];rw[Ë hj (by omega)]
  ·simp only[fc,dB,mQ,if_true];rw[Ĭ (by omega),ð (cG (by omega)),Ë (show i<s.length by omega) (by omega),Ë hj (by omega),cW]
 ·try dsimp only
  unfold mf;rw[Ý]
end
section
variable {b:Ĕ}
def Io (h:Ξ b) (g:Ā) {f t u:Int} (h1:f≤t) (h2:t≤u):lm b g f u=lm b g f t+lm b g t u:=by
 obtain⟨n,rfl⟩:∃n:Nat,u=t+n:=⟨(u-t).toNat,by omega⟩;clear h2
 induction n with
 |zero=>simp[Ut]
 |succ n ih =>
  have e:t+((n+1:Nat):Int)=(t+n)+1:=by omega
  rw[e,Us h g (show f≤t+(n:Int) by omega),Us h g (show t≤t+(n:Int) by omega),ih];omega
def BV (h:Ξ b) {g:Ā} (hg:g∈b.2.1) {f t:Int} (hf:0≤f):0≤lm b g f t:=(vp h hg hf).1
def hZ (b:Ĕ) (id d:Int):Int:=match jB (Ò b) id d with|some j=>(j:Int)+1|none=>0
def qx (h:Ξ b) {i:Nat} {g:Ā} (hg:b.2.1[i]?=some g) {k:Nat} {d:Int} (hk:(ä b g)[k]?=some d):hZ b g.1 d=(off b i:Int)+k+1:=by
 unfold hZ;rw[PK h hg hk];simp only;omega
structure ud (b:Ĕ) (p:Int→Int) (g:Ā):Prop where
 hi:p (hZ b g.1 g.2.1)≤p 0+(g.2.2.1+g.2.2.2.1.2)
 lo:p 0+(g.2.2.1+g.2.2.2.1.1)≤p (hZ b g.1 g.2.1)
 down:∀d e,d∈ä b g→e∈ä b g→d≤e→p (hZ b g.1 e)≤p (hZ b g.1 d)
 loss:∀d e,d∈ä b g→e∈ä b g→d≤e→p (hZ b g.1 d)≤p (hZ b g.1 e)+lm b g d e
def Eb (h:Ξ b) {i:Nat} {g:Ā} (hg:b.2.1[i]?=some g) {p:Int→Int}:(∀l∈Ő b g,p l.2.1≤p l.1+l.2.2)↔ud b p g:=by
 have hgm:=cP hg;obtain⟨tl,htl⟩:=UO h hgm
 have h0:hZ b g.1 g.2.1=(off b i:Int)+1:=by
  have:=qx h hg (k:=0) (d:=g.2.1) (by rw[htl]; rfl);rw[this];omega
 constructor
 ·intro hl;have e1:=hl _ ((Ľ h hg).2 (.inl rfl));have e2:=hl _ ((Ľ h hg).2 (.inr (.inl rfl)));simp only at e1 e2
  have step:∀(k:Nat) (d e:Int),(ä b g)[k]?=some d→(ä b g)[k+1]?=some e→p (hZ b g.1 e)≤p (hZ b g.1 d)∧p (hZ b g.1 d)≤p (hZ b g.1 e)+lm b g d e:=by
   intro k d e hd he;have a1:=hl _ ((Ľ h hg).2 (.inr (.inr ⟨k,d,e,hd,he,.inl rfl⟩)));have a2:=hl _ ((Ľ h hg).2 (.inr (.inr ⟨k,d,e,hd,he,.inr rfl⟩)));simp only at a1 a2;rw[qx h hg hd,qx h hg he]
   have e3:(off b i:Int)+((k+1:Nat):Int)+1=(off b i:Int)+k+2:=by omega
   rw[e3];exact⟨by omega,a2⟩
  have pair:∀(n k:Nat) (d e:Int),(ä b g)[k]?=some d→(ä b g)[k+n]?=some e→p (hZ b g.1 e)≤p (hZ b g.1 d)∧p (hZ b g.1 d)≤p (hZ b g.1 e)+lm b g d e:=by
   intro n
   induction n with
   |zero =>
    intro k d e hd he;rw[fM,hd] at he;cases he;rw[Ut g (dK _)];omega
   |succ n ih =>
    intro k d e hd he;have hlt:=(cJ.1 he).1;have hm:(ä b g)[k+n]?=some ((ä b g)[k+n]'(by omega)):=cG (by omega);obtain⟨a1,a2⟩:=ih k d _ hd hm;obtain⟨a3,a4⟩:=step (k+n) _ e hm he
    have o1:d≤(ä b g)[k+n]'(by omega):=by
     obtain⟨hkl,hkd⟩:=cJ.1 hd;rcases f0 n with rfl|hn
     ·rw[←hkd]; exact Int.le_of_eq (by congr 1)
     ·have:=(du.1 (vE b g)) k (k+n) hkl (by omega) (by omega);rw[hkd] at this; omega
    have o2:(ä b g)[k+n]'(by omega)≤e:=by
     obtain⟨hel,hee⟩:=cJ.1 he;have:=(du.1 (vE b g)) (k+n) (k+(n+1)) (by omega) hel (by omega);rw[hee] at this; omega
    have:=Io h g o1 o2;omega
  have any:∀d e,d∈ä b g→e∈ä b g→d≤e→p (hZ b g.1 e)≤p (hZ b g.1 d)∧p (hZ b g.1 d)≤p (hZ b g.1 e)+lm b g d e:=by
   intro d e hd he hde;obtain⟨k,hk,rfl⟩:=cT.1 hd;obtain⟨m,hm,rfl⟩:=cT.1 he
   have hkm:k≤m:=by
    rcases dg m k with hlt|hge
    ·have:=(du.1 (vE b g)) m k hm hk hlt; omega
    ·exact hge
   exact pair (m-k) k _ _ (cG hk) (by rw[show k+(m-k)=m by omega]; exact cG hm)
  exact⟨by rw[h0]; omega,by rw[h0]; omega,fun d e hd he hde=>(any d e hd he hde).1,fun d e hd he hde=>(any d e hd he hde).2⟩
 ·intro hf l hl;rcases(Ľ h hg).1 hl with rfl|rfl|⟨k,d,e,hd,he,rfl|rfl⟩
  ·have:=hf.hi; rw[h0] at this; simp only; omega
  ·have:=hf.lo; rw[h0] at this; simp only; omega
  ·have hde:d≤e:=by
    obtain⟨a1,a2⟩:=cJ.1 hd;obtain⟨a3,a4⟩:=cJ.1 he;have:=(du.1 (vE b g)) k (k+1) a1 a3 (by omega);rw[a2,a4] at this; omega
   have:=hf.down d e (cP hd) (cP he) hde;rw[qx h hg hd,qx h hg he] at this
   have e3:(off b i:Int)+((k+1:Nat):Int)+1=(off b i:Int)+k+2:=by omega
   rw[e3] at this;simp only;omega
  ·have hde:d≤e:=by
    obtain⟨a1,a2⟩:=cJ.1 hd;obtain⟨a3,a4⟩:=cJ.1 he;have:=(du.1 (vE b g)) k (k+1) a1 a3 (by omega);rw[a2,a4] at this; omega
   have:=hf.loss d e (cP hd) (cP he) hde;rw[qx h hg hd,qx h hg he] at this
   have e3:(off b i:Int)+((k+1:Nat):Int)+1=(off b i:Int)+k+2:=by omega
   rw[e3] at this;simp only;exact this
def abH (h:Ξ b) {p:Int→Int}:Pot (i6 b) p↔(∀g∈b.2.1,ud b p g)∧∀c∈b.2.2.2.2.1,p (cx b c)≤p (cy b c)+(wG b c).2∧p (cy b c)+(wG b c).1≤p (cx b c):=by
 constructor
 ·intro hp;refine⟨fun g hg=>?_,fun c hc=>?_⟩
  ·obtain⟨i,hi,rfl⟩:=cT.1 hg;exact(Eb h (cG hi)).1 fun l hl=>hp l.1 l.2.1 l.2.2 (oV.2 (.inl ⟨i,_,cG hi,hl⟩))
  ·have a1:=hp _ _ _ (oV.2 (.inr ⟨c,hc,.inl rfl⟩));have a2:=hp _ _ _ (oV.2 (.inr ⟨c,hc,.inr rfl⟩));omega
 ·rintro⟨hg,hc⟩ u v m hl;rcases oV.1 hl with⟨i,g,hig,hl⟩|⟨c,hcm,hl⟩
  ·exact(Eb h hig).2 (hg g (cP hig)) (u,v,m) hl
  ·obtain⟨a1,a2⟩:=hc c hcm;rcases hl with hl|hl
   ·obtain⟨rfl,rfl,rfl⟩:u=cy b c∧v=cx b c∧m=(wG b c).2:=by simpa using hl
    exact a1
   ·obtain⟨rfl,rfl,rfl⟩:u=cx b c∧v=cy b c∧m = -(wG b c).1:=by simpa using hl
    omega
end
def af4:List Int→Int
 |[]=>0
 |[a]=>a
 |a::b::t=>max a (af4 (b::t))
def Tk:∀{l:List Int},l≠[]→(∀a∈l,a≤af4 l)∧af4 l∈l
 |[],h=>absurd rfl h
 |[a],_=>⟨fun x hx=>by rw[cQ] at hx; rw[hx]; exact dK _,by simp[af4]⟩
 |a::b::t,_=>by
  obtain⟨h1,h2⟩:=Tk (l:=b::t) (by simp);have e:af4 (a::b::t)=max a (af4 (b::t)):=rfl;rw[e];constructor
  ·intro x hx;rcases cO.1 hx with rfl|hx
   ·omega
   ·have:=h1 x hx; omega
  ·rcases Int.le_total a (af4 (b::t)) with h|h
   ·rw[Int.max_eq_right h]; exact dl _ h2
   ·rw[Int.max_eq_left h]; exact List.mem_cons_self
section
variable {b:Ĕ}
def abF (b:Ĕ) (f:Int→Int→Int) (z:Int) (v:Int):Int:=if v=0 then z else match (Ò b)[(v-1).toNat]? with|some n=>f n.1 n.2|none=>0
def I5 (f:Int→Int→Int) (z:Int):abF b f z 0=z:=by unfold abF; rw[if_pos rfl]
def SI (h:Ξ b) (f:Int→Int→Int) (z:Int) {g:Ā} (hg:g∈b.2.1) {d:Int} (hd:d∈ä b g):abF b f z (hZ b g.1 d)=f g.1 d:=by
 obtain⟨i,hi,rfl⟩:=List.mem_iff_getElem.1 hg;obtain⟨k,hk,rfl⟩:=List.mem_iff_getElem.1 hd;have hgi:=List.getElem?_eq_getElem hi;have hdk:=List.getElem?_eq_getElem hk;rw[qx h hgi hdk];unfold abF
 have e:((off b i:Int)+k+1-1).toNat=off b i+k:=by omega
 rw[if_neg (by omega),e,aeH hgi hdk]
def U8 (b:Ĕ) (l:List Int) (d:Int):Int:=match l with|[]=>0|x::_=>hZ b x d
def Ze (l:List Int) (d:Int):atP (Ò b) l d=U8 b l d:=by
 unfold atP U8 hZ
 cases l<;>rfl
def ac8 (c:Cmp):cx b c=U8 b (ÿ c.2.2.1 c.2.2.2.1) c.2.1:=Ze _ _
def ac7 (c:Cmp):cy b c=U8 b (ÿ c.2.2.2.1 c.2.2.1) c.2.1:=Ze _ _
def YC (h:Ξ b) {c:Cmp} (hc:c∈b.2.2.2.2.1) {x:Int} (hx:x∈ÿ c.2.2.1 c.2.2.2.1∨x∈ÿ c.2.2.2.1 c.2.2.1):∃g∈b.2.1,g.1=x∧c.2.1∈ä b g:=by
 have hx':(x∈c.2.2.1∧x∉c.2.2.2.1)∨(x∈c.2.2.2.1∧x∉c.2.2.1):=by
  rcases hx with hx|hx
  ·exact .inl (nJ.1 hx)
  ·exact .inr (nJ.1 hx)
 have hm:x∈c.2.2.1++c.2.2.2.1:=by rw[cN]; exact hx'.imp (·.1) (·.1)
 obtain⟨⟨g,hg,_⟩,_⟩:=h.pile hc hm;obtain⟨hgm,hid⟩:=ii hg;refine⟨g,hgm,hid,Ż.2 (.inr (.inl ⟨c,hc,?_,rfl⟩))⟩;rw[hid];intro he;rw[gb,fo,fo] at he;rcases hx' with⟨a,e⟩|⟨a,e⟩
 ·exact e (he.1 a)
 ·exact e (he.2 a)
def fill (b:Ĕ) (p:Int→Int) (g:Ā) (d:Int):Int:=af4 ((ä b g).map fun e=>if d≤e then p (hZ b g.1 e) else p (hZ b g.1 e)-lm b g e d)
def Lx {p:Int→Int} {g:Ā} (d:Int):(∀e∈ä b g,(if d≤e then p (hZ b g.1 e) else p (hZ b g.1 e)-lm b g e d)≤fill b p g d)∧∃e∈ä b g,fill b p g d=if d≤e then p (hZ b g.1 e) else p (hZ b g.1 e)-lm b g e d:=by
 have hne:((ä b g).map fun e=>if d≤e then p (hZ b g.1 e) else p (hZ b g.1 e)-lm b g e d)≠[]:=by
  intro h;have:=List.map_eq_nil_iff.1 h;have h2:=rK (b:=b) g;rw[this] at h2;cases h2
 obtain⟨h1,h2⟩:=Tk hne;refine⟨fun e he=>h1 _ (dt.2 ⟨e,he,rfl⟩),?_⟩;obtain⟨e,he,hx⟩:=dt.1 h2;exact⟨e,he,hx.symm⟩
def YU (h:Ξ b) {p:Int→Int} {g:Ā} (hg:g∈b.2.1) (hf:ud b p g) {d:Int} (hd:d∈ä b g):fill b p g d=p (hZ b g.1 d):=by
 obtain⟨h1,e,he,h2⟩:=Lx (b:=b) (p:=p) (g:=g) d;have h3:=h1 d hd;rw[if_pos (dK _)] at h3
 have h4:fill b p g d≤p (hZ b g.1 d):=by
  rw[h2]
  split
  ·rename_i hde;exact hf.down d e hd he hde
  ·rename_i hde;have:=hf.loss e d he hd (by omega);omega
 omega
def UM (h:Ξ b) {p:Int→Int} {g:Ā} (hg:g∈b.2.1) (hf:ud b p g) {d e:Int} (h0:g.2.1≤d) (hde:d≤e):fill b p g e≤fill b p g d∧fill b p g d≤fill b p g e+lm b g d e:=by
 obtain⟨a1,x,hx,a2⟩:=Lx (b:=b) (p:=p) (g:=g) d;obtain⟨b1,y,hy,b2⟩:=Lx (b:=b) (p:=p) (g:=g) e;have hm:=(h.gaugeR hg).2.2.2.2.1;have hl:=BV h hg (f:=d) (t:=e) (by omega);have dx:=h.day hg hx;have dy:=h.day hg hy;constructor
 ·have q:=a1 y hy;rw[b2]
  by_cases c1:e≤y
  ·rw[if_pos c1];rw[if_pos (by omega)] at q;exact q
  ·rw[if_neg c1]
   by_cases c2:d≤y
   ·rw[if_pos c2] at q;have:=BV h hg (f:=y) (t:=e) dy.2.1;omega
   ·rw[if_neg c2] at q;have:=Io h g (f:=y) (t:=d) (u:=e) (by omega) hde;omega
 ·have q:=b1 x hx;rw[a2]
  by_cases c1:d≤x
  ·rw[if_pos c1]
   by_cases c2:e≤x
   ·rw[if_pos c2] at q;omega
   ·rw[if_neg c2] at q;have:=Io h g (f:=d) (t:=x) (u:=e) c1 (by omega);have:=BV h hg (f:=d) (t:=x) (by omega);omega
  ·rw[if_neg c1];rw[if_neg (by omega)] at q;have:=Io h g (f:=x) (t:=d) (u:=e) (by omega) hde;omega
end
section
variable {b:Ĕ} {c:Cmp}
def aaF {b':Ĕ} (h':Ξ b') {l:List Int} {day:Int} (f:Int→Int→Int) (z:Int) (hl:∀x∈l,∃g∈b'.2.1,g.1=x∧day∈ä b' g):abF b' f z (U8 b' l day)=match l with|[]=>z|x::_=>f x day:=by
 unfold U8
 cases l with
 |nil=>exact I5 f z
 |cons x t =>
  obtain⟨g,hg,rfl,hd⟩:=hl x (by simp);exact SI h' f z hg hd
end
section
variable {L:List Lk} {N:Nat}
def Wl.app {u v:Int} {vs:List Int} {d:Int} (h1:Wl L (fun x=>x=u) vs v d) {ws:List Int} {w e:Int} (h2:Wl L (fun x=>x=v) ws w e):∃xs,Wl L (fun x=>x=u) xs w (d+e):=by
 induction h2 with
 |nil h=>subst h; exact⟨vs,by rw[gG]; exact h1⟩
 |step hw hx ih =>
  obtain⟨xs,hi⟩:=ih;have:=Wl.step hi hx;rw[Int.add_assoc] at this;exact⟨_,this⟩
def dst (L:List Lk) (N:Nat) (s t:Int):Int:=gv (yr L N s) t
def ac0 (h:jr L N) (ht:Xx L N) (ho:kI L N=true) {s t:Int} (hs:0≤s∧s<N) (hv:0≤t∧t<N):dst L N s t≤9007199254740992:=by
 have h2:=h.n60;obtain⟨p,hp⟩:=(kH h.links (by omega)).1 ho;obtain⟨vs,d,hw,hd⟩:=ht.from' s hs.1 hs.2;obtain⟨ws,e,hx,he⟩:=ht.to t hv.1 hv.2;obtain⟨xs,hy⟩:=Wl.app hw hx;have:=(B8 h.links (by omega) hp hs).low t xs _ (af1.2 hy);unfold dst;omega
def dst_ne (h:jr L N) (ht:Xx L N) (ho:kI L N=true) {s t:Int} (hs:0≤s∧s<N) (hv:0≤t∧t<N):dst L N s t≠Š:=by
 have:=ac0 h ht ho hs hv;unfold Š;omega
def acZ (h:jr L N) (ht:Xx L N) (ho:kI L N=true) {s t:Int} (hs:0≤s∧s<N) (hv:0≤t∧t<N) {p:Int→Int} (hp:Pot L p):p t-p s≤dst L N s t:=by
 have h2:=h.n60;obtain⟨vs,hw⟩:=(B8 h.links (by omega) hp hs).att t hv.1 hv.2 (dst_ne h ht ho hs hv);obtain⟨u,hu,hx⟩:=(af1.1 hw).pot hp;subst hu;exact hx
def acY (h:jr L N) (ht:Xx L N) (ho:kI L N=true) {x y:Int} (hx:0≤x∧x<N) (hy:0≤y∧y<N) : -(dst L N x y)≤dst L N y x:=by
 have h2:=h.n60;obtain⟨p,hp⟩:=(kH h.links (by omega)).1 ho;have a1:=acZ h ht ho hx hy hp;have a2:=acZ h ht ho hy hx hp;omega
def dst_bd (h:jr L N) (ht:Xx L N) (ho:kI L N=true) {s t:Int} (hs:0≤s∧s<N) (hv:0≤t∧t<N) : -9007199254740992≤dst L N s t∧dst L N s t≤9007199254740992:=by
 have a1:=ac0 h ht ho hs hv;have a2:=ac0 h ht ho hv hs;have a3:=acY h ht ho hv hs;omega
end
def abq (f:Int→Int→Int) (z:Int) (l:List Int) (d:Int):Int:=match l with|[]=>z|x::_=>f x d
def aal (f:Int→Int→Int) (z:Int) (c:Cmp):Int:=abq f z (ÿ c.2.2.1 c.2.2.2.1) c.2.1-abq f z (ÿ c.2.2.2.1 c.2.2.1) c.2.1
structure ahG (b:Ĕ) (f:Int→Int→Int) (z:Int) (g:Ā):Prop where
 hi:f g.1 g.2.1≤z+(g.2.2.1+g.2.2.2.1.2)
 lo:z+(g.2.2.1+g.2.2.2.1.1)≤f g.1 g.2.1
 down:∀d e,g.2.1≤d→d≤e→f g.1 e≤f g.1 d
 loss:∀d e,g.2.1≤d→d≤e→f g.1 d≤f g.1 e+lm b g d e
structure Hist (b:Ĕ) (f:Int→Int→Int) (z:Int):Prop where
 gauge:∀g∈b.2.1,ahG b f z g
 cmp:∀c∈b.2.2.2.2.1,(wG b c).1≤aal f z c∧aal f z c≤(wG b c).2
def acS {b:Ĕ} (h:Ξ b) {p:Int→Int} (hg:∀g∈b.2.1,ud b p g):∃f:Int→Int→Int,(∀g∈b.2.1,ahG b f (p 0) g)∧∀g∈b.2.1,∀d∈ä b g,f g.1 d=p (hZ b g.1 d):=by
 let f:Int→Int→Int:=fun id d=>match ö b id with|some g=>fill b p g d|none=>0
 have hfv:∀g∈b.2.1,∀d,f g.1 d=fill b p g d:=fun g hgm d=>by
  show(match ö b g.1 with|some g=>fill b p g d|none=>0)=_;rw[vv h.ids hgm]
 refine⟨f,fun g hgm=>?_,fun g hgm d hd=>by rw[hfv g hgm]; exact YU h hgm (hg g hgm) hd⟩;have gf:=hg g hgm
 have e0:f g.1 g.2.1=p (hZ b g.1 g.2.1):=by rw[hfv g hgm]; exact YU h hgm gf (rK g)
 refine⟨by rw[e0]; exact gf.hi,by rw[e0]; exact gf.lo,fun d e h0 hde=>?_,fun d e h0 hde=>?_⟩
 ·rw[hfv g hgm,hfv g hgm];exact(UM h hgm gf h0 hde).1
 ·rw[hfv g hgm,hfv g hgm];exact(UM h hgm gf h0 hde).2
def Sv {b:Ĕ} {f:Int→Int→Int} {p:Int→Int} (hm:∀g∈b.2.1,∀d∈ä b g,f g.1 d=p (hZ b g.1 d)) {l:List Int} {day:Int} (hl:∀x∈l,∃g∈b.2.1,g.1=x∧day∈ä b g):p (U8 b l day)=abq f (p 0) l day:=by
 cases l with
 |nil=>rfl
 |cons x t =>
  obtain⟨g,q1,rfl,q3⟩:=hl x (by simp);exact(hm g q1 day q3).symm
def ac3 {b:Ĕ} {f:Int→Int→Int} {p:Int→Int} (hm:∀g∈b.2.1,∀d∈ä b g,f g.1 d=p (hZ b g.1 d)) {c:Cmp}
 (hl:∀x,x∈ÿ c.2.2.1 c.2.2.2.1∨x∈ÿ c.2.2.2.1 c.2.2.1→∃g∈b.2.1,g.1=x∧c.2.1∈ä b g):p (cx b c)-p (cy b c)=aal f (p 0) c:=by
 unfold aal;rw[ac8,ac7,Sv hm (fun x hx=>hl x (.inl hx)),Sv hm (fun x hx=>hl x (.inr hx))]
def N4 {b:Ĕ} (h:Ξ b) (f:Int→Int→Int) (z:Int) {l:List Int} {day:Int} (hl:∀x∈l,∃g∈b.2.1,g.1=x∧day∈ä b g):abF b f z (U8 b l day)=abq f z l day:=by
 rw[aaF h f z hl];unfold abq
 cases l<;>rfl
def abE {b:Ĕ} (h:Ξ b) {f:Int→Int→Int} {z:Int} {c:Cmp} (hl:∀x,x∈ÿ c.2.2.1 c.2.2.2.1∨x∈ÿ c.2.2.2.1 c.2.2.1→∃g∈b.2.1,g.1=x∧c.2.1∈ä b g):abF b f z (cx b c)-abF b f z (cy b c)=aal f z c:=by
 unfold aal;rw[ac8,ac7,N4 h f z (fun x hx=>hl x (.inl hx)),N4 h f z (fun x hx=>hl x (.inr hx))]
def ZH {b:Ĕ} (h:Ξ b) {f:Int→Int→Int} {z:Int} {g:Ā} (hg:g∈b.2.1) (hh:ahG b f z g):ud b (abF b f z) g:=by
 have q:∀d∈ä b g,abF b f z (hZ b g.1 d)=f g.1 d:=fun d hd=>SI h f z hg hd;have e0:=q g.2.1 (rK g);refine⟨?_,?_,fun d e hd he hde=>?_,fun d e hd he hde=>?_⟩
 ·rw[e0,I5]; exact hh.hi
 ·rw[e0,I5]; exact hh.lo
 ·rw[q d hd,q e he]; exact hh.down d e (h.day hg hd).1 hde
 ·rw[q d hd,q e he]; exact hh.loss d e (h.day hg hd).1 hde
section
variable {b:Ĕ} {c:Cmp}
def aeA (h:Ξ b) {p:Int→Int} (hp:Pot (i6 b) p):∃f,Hist b f (p 0)∧∀g∈b.2.1,∀d∈ä b g,f g.1 d=p (hZ b g.1 d):=by
 obtain⟨hg,hc⟩:=(abH h).1 hp;obtain⟨f,hf,hm⟩:=acS h hg;refine⟨f,⟨hf,fun c hcm=>?_⟩,hm⟩;have:=ac3 hm (c:=c) (fun x hx=>YC h hcm hx);have:=hc c hcm;omega
def ae1 (h:Ξ b) {f:Int→Int→Int} {z:Int} (hh:Hist b f z):Pot (i6 b) (abF b f z):=by
 refine(abH h).2 ⟨fun g hg=>ZH h hg (hh.gauge g hg),fun c hc=>?_⟩;have:=abE (f:=f) (z:=z) h (c:=c) (fun x hx=>YC h hc hx);have:=hh.cmp c hc;omega
def Td (h:Ξ b):kI (i6 b) ((Ò b).length+1)=true↔∃f z,Hist b f z:=by
 have:=h.sys.n60;rw[kH h.sys.links (by omega)];constructor
 ·rintro⟨p,hp⟩;obtain⟨f,hf,_⟩:=aeA h hp;exact⟨f,_,hf⟩
 ·rintro⟨f,z,hh⟩;exact⟨_,ae1 h hh⟩
end
def ae8 {m:ņ} (h:Ξ m.1) (p:Cmp→Bool):(ahe m p).1=less m.1 ((m.1.2.2.2.2.1.filter fun c=>!p c).map fun c=>c.1):=by
 unfold ahe less;dsimp only;congr 5;refine List.filter_congr fun c hc=>?_;rw[Bool.eq_iff_iff,Bool.not_eq_true',Bool.eq_false_iff,ne_eq,List.contains_iff_mem,List.mem_map];constructor
 ·rintro hp ⟨c',hc',e⟩;obtain⟨h1,h2⟩:=dT.1 hc'
  have:c'=c:=by
   obtain⟨i,hi,rfl⟩:=cT.1 h1;obtain⟨j,hj,rfl⟩:=cT.1 hc;have hd:=du.1 h.distinct;rcases Nat.lt_trichotomy i j with hij|hij|hij
   ·exact absurd e (hd i j hi hj hij)
   ·subst hij; rfl
   ·exact absurd e.symm (hd j i hj hi hij)
  rw[this,hp] at h2;cases h2
 ·intro hn
  cases hp:p c with
  |true=>rfl
  |false=>exact absurd ⟨c,dT.2 ⟨hc,by simp[hp]⟩,rfl⟩ hn
def MOk.few {m:ņ} (h:MOk m) (p:Cmp→Bool):MOk (ahe m p):=by
 refine⟨?_,h.n4,h.mixE,h.prod⟩;rw[ae8 h.good];exact h.good.less _
section
variable {m:ņ} {ρ:Type}
def NK (h:MOk m) (ids:List Int):ü (sF m ids)=some (OZ (sF m ids)):=rJ (h.few _)
def nN (b:Ĕ) (id d:Int):Int:=if !IE d then 1 else if (ö b id).isNone then 5 else 0
def Rg (hn:m.1.2.1.length≤1000) (id d:Int):tQ m id d=some (nN m.1 id d):=by
 unfold tQ JD nN
 by_cases h:IE d=true
 ·have h':=h;simp only[IE,inP,cI,decide_eq_true_eq] at h';rw[h,Ð (by simp[ilt]; omega),Ð (by simp[igt]; omega),if_neg (by simp)];refine eN (ľ m.1.2.1 (fun g=>g.1==id) (fun z=>ifb (!(ige z (0:Int))) (some 5) (some 0)) (some 0) (some 5) (fun j=>Ð (by simp[ige]) _ _) (fun i a hi ha kn=>?_) (fun kn=>?_)) ?_
  ·try dsimp only
   unfold qL;rw[Ï hi,È ha,Ë hi (by omega),Ċ]
  ·try dsimp only
   unfold qL;rw[Ý]
  ·unfold ö
   cases hf:m.1.2.1.find? (fun g=>g.1==id) with
   |none =>
    rw[if_neg]
    ·rfl
    rw[dj];rintro⟨g,hg,e⟩;exact absurd e (by simpa using(eo.1 hf) g hg)
   |some g =>
    rw[if_pos]
    ·rfl
    have hp:=f5 hf;exact dj.2 ⟨g,fq hf,hp⟩
 ·have h':=h;simp only[IE,inP,cI,decide_eq_true_eq,not_and,Int.not_le] at h';rw[if_pos (by simp[h])];rw[Ċ,Ċ];simp only[ilt,igt,decide_eq_true_eq]
  split
  ·rfl
  ·rw[if_pos (by have:=h' (by omega); omega)]
def L1 (label:Int) (c:Cmp):Bool:=(ÿ c.2.2.1 c.2.2.2.1).contains label||(ÿ c.2.2.2.1 c.2.2.1).contains label
def Gr (m:ņ) (label:Int):Bool×Int:=if ę m≠0 then(false,ę m) else if nN m.1 label 0≠0 then(false,nN m.1 label 0) else(!ky (ahe m (L1 label)),0)
def Vg (hs:In m.1) (hn:m.2.length≤1000) (label:Int):oE m label=some (Gr m label):=by
 unfold oE uE Gr;rw[j7 hs hn,À]
 by_cases hc:ę m=0
 ·have h:=(ĩ m).1 hc;have hC:=h.good.nC;rw[Ð (by simp[ine,hc]),if_neg (by simp[hc]),Rg hs.size.gauges,À]
  by_cases hk:nN m.1 label 0=0
  ·rw[Ð (by simp[ine,hk]),if_neg (by simp[hk]),ý (Õ (by omega))]
   have hcan:∀c∈m.1.2.2.2.2.1,oZ c.2.2.1 c.2.2.2.1=some (ÿ c.2.2.1 c.2.2.2.1,ÿ c.2.2.2.1 c.2.2.1,0)∧(ÿ c.2.2.1 c.2.2.2.1).length≤1000000∧(ÿ c.2.2.2.1 c.2.2.1).length≤1000000:=fun c hc=>by
    obtain⟨p1,p2⟩:=h.good.size.piles c hc;have hnum:=(kJ c).1 (h.good.nums hc);have l1:=D0 c.2.2.1 c.2.2.2.1;have l2:=D0 c.2.2.2.1 c.2.2.1;refine⟨?_,by omega,by omega⟩;rw[ad2 (by omega) (by omega),XB,hnum.2.2.2.2.2.1,hnum.2.2.2.2.2.2]; rfl
   have hK:∀l,l=m.1.2.2.2.2.1.filter (L1 label)→Ä (ü ((m.1.1,m.1.2.1,m.1.2.2.1,m.1.2.2.2.1,l,m.1.2.2.2.2.2),m.2)) (fun r24=>some ((!r24.2),(0:Int)))=some (!ky (ahe m (L1 label)),0):=fun l hl=>by
    subst hl;have:=rJ (h.few (L1 label));unfold ahe at this ⊢;rw[this,À,vw]
   refine eN (Xb (a:=m.1.2.2.2.2.1) (L1 label) (K:=fun l=>Ä (ü ((m.1.1,m.1.2.1,m.1.2.2.1,m.1.2.2.2.1,l,m.1.2.2.2.2.2),m.2)) fun r24=>some ((!r24.2),(0:Int))) (k0:=ac4 zC fun l=>Ä (ü ((m.1.1,m.1.2.1,m.1.2.2.1,m.1.2.2.2.1,l,m.1.2.2.2.2.2),m.2)) fun r24=>some ((!r24.2),(0:Int)))
    (kf:=fun z9=>ifb (ieq z9 (-1:Int)) (Ä (ü m) fun r10=>some ((!r10.2),(0:Int))) (ck (z9+(1:Int)) fun n11=>Ê (fun(v25:Int×Int×List Cmp) kk29=>Δ label v25.1 v25.2.1 v25.2.2 (fun u26 u27 u28=>kk29 (u26,u27,u28)) (ac4 zC fun l=>Ä (ü ((m.1.1,m.1.2.1,m.1.2.2.1,m.1.2.2.2.1,l,m.1.2.2.2.2.2),m.2)) fun r24=>some ((!r24.2),(0:Int)))) (z9,n11,m.1.2.2.2.2.1)))
    (F:=fun a b c kn=>Δ label a b c kn (ac4 zC fun l=>Ä (ü ((m.1.1,m.1.2.1,m.1.2.2.1,m.1.2.2.2.1,l,m.1.2.2.2.2.2),m.2)) fun r24=>some ((!r24.2),(0:Int)))) (kend:=Ä (ü m) fun r10=>some ((!r10.2),(0:Int))) (fun i x hi hx kn=>?_) (fun kn=>?_) rfl (fun z hz=>?_) (fun i j s x hs hij hj hx hxa kn=>?_) (fun i s kn hi hs=>?_) (fun i s hi=>Xc _ _ hi)) (hK _ rfl)
   ·try dsimp only
    unfold jX;obtain⟨c1,c2,c3⟩:=hcan x (List.mem_of_getElem? hx);rw[Ï hi,Ĭ hi,ð hx,c1,À,Ĩ c2,À,Ĩ c3,À];unfold L1
    cases(ÿ x.2.2.1 x.2.2.2.1).contains label<;>cases(ÿ x.2.2.2.1 x.2.2.1).contains label<;>simp only[mQ,é,dB,fc,Bool.or_true,Bool.or_false,if_true,cV,if_false]<;>first|rfl|rw[Ë hi (by omega)]
   ·try dsimp only
    unfold jX;rw[Ý]
   ·rw[Ð (by simp[ieq]),Ë hz (by omega)]
   ·try dsimp only
    unfold Δ;obtain⟨c1,c2,c3⟩:=hcan x hxa;have hx2:s[i]?=some s[i]:=List.getElem?_eq_getElem (by omega);rw[Ï hj,show í s=((s.length:Nat):Int) from rfl,Ĭ hj,ð hx,c1,À,Ĩ c2,À,Ĩ c3,À];unfold L1
    cases(ÿ x.2.2.1 x.2.2.2.1).contains label<;>cases(ÿ x.2.2.2.1 x.2.2.1).contains label<;>simp only[mQ,é,dB,fc,Bool.or_true,Bool.or_false,if_true,cV,if_false]<;>first|rw[Ë hj (by omega)]|rw[Ĭ (by omega),ð hx2,Ë (show i<s.length by omega) (by omega),Ë hj (by omega),cW]
   ·try dsimp only
    unfold Δ;rw[Ý]
  ·rw[Ú (by simp[ine,hk]),if_pos hk]
 ·rw[Ú (by simp[ine,hc]),if_pos hc]
def WZ (m:ņ):List Int:=m.1.2.2.2.2.1.map fun c=>c.1
def adc (m:ņ):Nat→List Int→List Int
 |0,l=>l
 |i+1,l=>adc m i (if ky (sF m (l.take i++l.drop (i+1))) then l else l.take i++l.drop (i+1))
def ahI (m:ņ):List Int×Int:=if ę m≠0 then([],ę m) else if ky m then([],5) else(adc m (WZ m).length (WZ m),0)
def ahH (hs:In m.1) (hn:m.2.length≤1000):Iy m=some (ahI m):=by
 unfold Iy Qh ahI;rw[j7 hs hn,À]
 by_cases hc:ę m=0
 ·have h:=(ĩ m).1 hc;have hC:=h.good.nC;have hm:((((m.1.1.1,m.1.1.2),m.1.2.1,m.1.2.2.1,m.1.2.2.2.1,m.1.2.2.2.2.1,m.1.2.2.2.2.2),m.2):ņ)=m:=rfl;rw[Ð (by simp[ine,hc]),if_neg (by simp[hc]),rJ h,À,vw]
  cases ky m with
  |true=>rfl
  |false =>
   simp only[é,cV,if_false]
   have hl:(WZ m).length=m.1.2.2.2.2.1.length:=by unfold WZ; simp
   refine eN (yM m.1.2.2.2.2.1 (fun c=>c.1) (fun z5=>ck ((Ù z5)-(1:Int)) fun n6=>Ê (fun(v14:List Int×Int) kk17=>pw m.1.1.1 m.1.1.2 m.1.2.1 m.1.2.2.1 m.1.2.2.2.1 m.1.2.2.2.2.1 m.1.2.2.2.2.2 m.2 v14.1 v14.2 (fun u15 u16=>kk17 (u15,u16)) (fun z13=>some (z13,(0:Int)))) (z5,n6)) (fun i a hi ha v kn hv=>?_) (fun v kn=>?_)) ?_
   ·try dsimp only
    unfold uG;rw[Ï hi,È ha,ý (Õ (by simp; omega)),Ë hi (by omega)]
   ·try dsimp only
    unfold uG;rw[Ý]
   ·show(ck ((Ù (WZ m))-(1:Int)) fun n6=>Ê _ (WZ m,n6))=_;rw[Ô,Ó (by omega) (by omega)];refine ė (fun x:List Int×Int=>∃i:Nat,x.2=(i:Int)-1∧i≤x.1.length∧x.1.length≤40∧adc m i x.1=adc m (WZ m).length (WZ m)) (fun x=>(x.2+1).toNat) ?_ ⟨_,rfl,Nat.le_refl _,by dsimp only; omega,rfl⟩;rintro⟨l,x2⟩ ⟨i,h1,hil,hl40,hco⟩;simp only at h1 hil hl40 hco;subst h1
    cases i with
    |zero =>
     refine .inl fun kn=>?_
     try dsimp only
     unfold pw;rw[Ð (by simp[ige]),←hco]; rfl
    |succ i =>
     have e0:((i+1:Nat):Int)-1=i:=by omega
     have hlen:(l.take i++l.drop (i+1)).length=l.length-1:=by simp; omega
     rw[adc] at hco;refine .inr ⟨(if ky (sF m (l.take i++l.drop (i+1))) then l else l.take i++l.drop (i+1),(i:Int)-1),⟨i,rfl,?_,?_,hco⟩,by simp only[e0]; omega,fun kn=>?_⟩
     ·dsimp only; split<;>omega
     ·dsimp only; split<;>omega
     ·try dsimp only
      unfold pw;rw[e0,Ú (by simp[ige]),ý (by simp[ile,í]; omega),Ó (by omega) (by omega),ý (by simp[ile,í]; omega),Int.toNat_natCast,show Int.toNat ((i:Int)+1)=i+1 by omega,Me (by simp; omega) (by simp; omega),À,hm,VT (by omega) (by omega),À,NK h,À,vw,Ċ,Ó (by omega) (by omega),Ó (by omega) (by omega)]
      cases ky (sF m (l.take i++l.drop (i+1)))<;>rfl
 ·rw[Ú (by simp[ine,hc]),if_pos hc]
end
def Č:List Int→Nat→List Int
 |[],_=>[]
 |x::l,s=>if s % 2=1 then x::Č l (s / 2) else Č l (s / 2)
def LM:∀{l:List Int} {s i:Nat} {x:Int},l[i]?=some x→Č (l.take (i+1)) s=Č (l.take i) s++if s / 2 ^ i % 2=1 then[x] else[]
 |[],_,_,_,h=>by simp at h
 |y::l,s,0,x,h=>by
  simp at h; subst h;simp[Č]
 |y::l,s,i+1,x,h=>by
  simp only[fF] at h;have:=LM (s:=s / 2) h;simp only[gC,Č,this,Nat.pow_succ',←Nat.div_div_eq_div_mul]
  split<;>rfl
def o9:∀(l:List Int) (s:Nat),(Č l s).length≤l.length
 |[],_=>cH _
 |x::l,s=>by
  have:=o9 l (s / 2);unfold Č
  split<;>simp only[cX]<;>omega
def bit_i {s i:Nat} (hs:s<9223372036854775808) (hi:i≤60):ieq (andI .i64 (ij .i64 (s:Int) (i:Int)) (1:Int)) (1:Int)=decide (s / 2 ^ i % 2=1):=by
 have h1:ij .i64 (s:Int) (i:Int)=((s / 2 ^ i:Nat):Int):=by
  unfold ij;have:IntKind.i64.bits=64:=rfl;rw[this,Int.toNat_natCast,Nat.min_eq_left (by omega),Int.fdiv_eq_ediv_of_nonneg _ (Int.le_of_lt (Int.pow_pos (by decide)))];push_cast; rfl
 rw[h1];unfold andI ad7
 have hb:(BitVec.ofInt 64 ((s / 2 ^ i:Nat):Int) &&& BitVec.ofInt 64 1).toNat=s / 2 ^ i % 2:=by
  rw[BitVec.toNat_and,gw,show BitVec.ofInt 64 1=1#64 from rfl,BitVec.toNat_ofNat];rw[show(1#64).toNat=1 from rfl,Nat.and_one_is_mod,Nat.mod_mod_of_dvd _ (by decide)]
 show ieq (IntKind.i64.wrap ((BitVec.ofInt 64 ((s / 2 ^ i:Nat):Int) &&& BitVec.ofInt 64 1).toNat:Int)) 1=_;have hq:s / 2 ^ i % 2<2:=Nat.mod_lt _ (by decide);rw[hb];generalize s / 2 ^ i % 2=q at hq;rw[aaV (by omega)];unfold ieq;rw[Bool.eq_iff_iff,beq_iff_eq,decide_eq_true_eq];omega
def agD (s x:Nat):Bool:=s &&& x==s
def sub_i {s x:Nat} (hs:s<9223372036854775808) (hx:x<9223372036854775808):ieq (Gq .i64 (s:Int) (x:Int)) (0:Int)=agD s x:=by
 unfold Gq ad7;show ieq (IntKind.i64.wrap ((BitVec.ofInt 64 (s:Int) &&& ~~~ BitVec.ofInt 64 (x:Int)).toNat:Int)) 0=_
 have h1:(BitVec.ofInt 64 (s:Int) &&& ~~~ BitVec.ofInt 64 (x:Int)).toNat<9223372036854775808:=by
  rw[BitVec.toNat_and];refine Nat.lt_of_le_of_lt Nat.and_le_left ?_;rw[gw,BitVec.toNat_ofNat,Nat.mod_eq_of_lt (by omega)]; exact hs
 rw[aaV h1];unfold ieq agD;rw[Bool.eq_iff_iff,beq_iff_eq,beq_iff_eq]
 have h2:(((BitVec.ofInt 64 (s:Int) &&& ~~~ BitVec.ofInt 64 (x:Int)).toNat:Nat):Int)=0↔∀i,i<64→s.testBit i=true→x.testBit i=true:=by
  rw[Int.natCast_eq_zero,←BitVec.toNat_zero (w:=64),BitVec.toNat_inj];constructor
  ·intro h i hi hsi;have:=congrArg (fun b:BitVec 64=>b.getLsbD i) h;simp only[BitVec.getLsbD_and,BitVec.getLsbD_not,gw,BitVec.getLsbD_ofNat,BitVec.getLsbD_zero,hi,decide_true,eD,hsi] at this;simpa using this
  ·intro h;apply BitVec.eq_of_getLsbD_eq;intro i hi;simp only[BitVec.getLsbD_and,BitVec.getLsbD_not,gw,BitVec.getLsbD_ofNat,BitVec.getLsbD_zero,hi,decide_true,eD]
   cases hsi:s.testBit i with
   |false=>simp
   |true=>rw[h i hi hsi]; simp
 rw[h2];constructor
 ·intro h;refine Nat.eq_of_testBit_eq fun i=>?_;rw[Nat.testBit_and]
  cases hsi:s.testBit i with
  |false=>rfl
  |true =>
   rcases dg i 64 with hi|hi
   ·rw[h i hi hsi]; rfl
   ·have:s<2 ^ i:=df hs (cZ (by decide) (Nat.pow_le_pow_right (by decide) hi));rw[Nat.testBit_lt_two_pow this] at hsi; cases hsi
 ·intro h i _ hsi;rw[←h,Nat.testBit_and,cI] at hsi;exact hsi.2
def aaN:List Int→List Int→Int
 |[],[]=>0
 |[],_=>-1
 |_,[]=>1
 |x::l,y::m=>if x<y then -1 else if y<x then 1 else aaN l m
def Hg (m:ņ) (ids:List Int) (st:List Int×Nat×List Nat) (s:Nat):List Int×Nat×List Nat :=
 if st.1.length<(Č ids s).length∨((Č ids s).length=st.1.length∧0≤aaN (Č ids s) st.1) then st else
 if st.2.2.any (agD s) then st else if ky (sF m (Č ids s)) then(st.1,st.2.1,st.2.2++[s]) else(Č ids s,s,st.2.2)
def Hj (m:ņ) (ids:List Int) (n:Nat):List Int×Nat×List Nat:=(List.range n).foldl (Hg m ids) (ids,2 ^ ids.length-1,[])
def adX (m:ņ) (ids:List Int):List Int×Int :=
 if ę m≠0 then([],ę m) else if 8<ids.length then([],2) else if !ids.all (fun i=>(WZ m).contains i) then([],5) else if ¬ids.Pairwise (·<·) then([],6) else
 if ky (sF m (Č ids (2 ^ ids.length-1))) then([],5) else(Č ids (Hj m ids (2 ^ ids.length-1)).2.1,0)
section
variable {m:ņ} {ρ:Type}
def Ey {l:List Int} (hl:l.length≤60) {s:Nat} (hs:s<9223372036854775808):iE l (s:Int)=some (Č l s):=by
 unfold iE Fl;refine ģ l (fun i=>Č (l.take i) s) _ rfl (fun i x hi hx kn=>?_) (fun kn=>?_)
 ·try dsimp only
  unfold ox;have hcl:=o9 (l.take i) s
  have:(l.take i).length=i:=by rw[dc]; omega
  rw[Ï hi,È hx,ý (by simp[ile]),bit_i hs (by omega),Ċ,LM hx]
  by_cases h:s / 2 ^ i % 2=1
  ·rw[if_pos (by simpa using h),if_pos h,ý (Õ (by simp; omega)),Ë hi (by omega)]
  ·rw[if_neg (by simpa using h),if_neg h,Ë hi (by omega),dh]
 ·try dsimp only
  unfold ox;rw[Ý,List.take_length]
def aet (hn:m.1.2.2.2.2.1.length≤1000) {ids:List Int} (hi:ids.length≤1000) (K:Int→Option ρ) (Z:Option ρ):Ê (fun(v:Int) kk=>π ids (Ù ids) m.1.2.2.2.2.1 v (fun u=>kk u) K (fun _=>Z)) 0=if ids.all (fun i=>(WZ m).contains i) then Z else K 5:=by
 have:=ľ ids (fun i=>!(WZ m).contains i) (fun _=>K 5) (K 5) Z (f:=fun v kk=>π ids (Ù ids) m.1.2.2.2.2.1 v (fun u=>kk u) K (fun _=>Z)) (fun _=>rfl) (fun i x hi' hx kn=>?_) (fun kn=>?_)
 ·rw[this,List.all_eq_not_any_not]
  cases ids.any (fun i=>!(WZ m).contains i)<;>rfl
 ·try dsimp only
  unfold π;rw[Ï hi',È hx];refine Eq.trans (ľ m.1.2.2.2.2.1 (fun c=>c.1==x) (fun z5=>ifb (!(ige z5 (0:Int))) (K (5:Int)) (ck ((i:Int)+(1:Int)) fun n6=>kn n6)) (kn ((i:Int)+1)) (K 5) (fun j=>by rw[Ð (by simp[ige]),Ë hi' (by omega)]) (fun j c hj hc kn'=>?_) (fun kn'=>?_)) ?_
  ·try dsimp only
   unfold kQ;rw[Ï hj,È hc,Ë hj (by omega),Ċ]
  ·try dsimp only
   unfold kQ;rw[Ý]
  ·have:(WZ m).contains x=m.1.2.2.2.2.1.any fun c=>c.1==x:=by
    unfold WZ;rw[Bool.eq_iff_iff,List.contains_iff_mem,List.mem_map,List.any_eq_true];simp
   rw[this]
   cases m.1.2.2.2.2.1.any (fun c=>c.1==x)<;>rfl
 ·try dsimp only
  unfold π;rw[Ý]
def aes {l:List Int} (hl:l.length≤1000) (k0:Int→Option ρ) (k1:Unit→Option ρ):Ê (fun(v:Int) kk=>iT l v (fun u=>kk u) k0 k1) 1=if l.Pairwise (·<·) then k1 () else k0 6:=by
 refine Yv (fun i a c ha hc kn=>?_) (fun n hn kn=>?_)
 ·have hi:=(List.getElem?_eq_some_iff.1 hc).1;unfold iT
  have e:((i:Int)+1)=((i+1:Nat):Int):=by omega
  rw[e,Ï hi,È hc,Ó (by omega) (by omega),←e,Int.add_sub_cancel,È ha,Ċ,Ó (by omega) (by omega)];simp
 ·unfold iT;rw[Ð (by simp[ilt,Ô]; omega)]
def Es (h:MOk m) (ids:List Int) {w:Way} (hw:Ė m.2 w):Λ (sF m ids) w=some (lL (sF m ids) w):=vC (h.few _) hw
def aer (h:MOk m) {ids:List Int} (hi:ids.length≤60) {s:Nat} (hs:s<9223372036854775808) (X Z:Option ρ):Ê (fun(v:Int) kk=>iS (Œ m.2) (Ù (Œ m.2)) m.1.1.1 m.1.1.2 m.1.2.1 m.1.2.2.1 m.1.2.2.2.1 m.1.2.2.2.2.1 m.1.2.2.2.2.2 m.2 ids (s:Int) v (fun u=>kk u) (fun z=>ifb z.2 X Z) (fun _=>Z)) 0=if ky (sF m (Č ids s)) then X else Z:=by
 have hm:((((m.1.1.1,m.1.1.2),m.1.2.1,m.1.2.2.1,m.1.2.2.2.1,m.1.2.2.2.2.1,m.1.2.2.2.2.2),m.2):ņ)=m:=rfl;have hl2:=ug h;have hcl:=o9 ids s;refine ľ (Œ m.2) (lL (sF m (Č ids s))) (fun _=>X) X Z (fun _=>rfl) (fun i x hi' hx kn=>?_) (fun kn=>?_)
 ·try dsimp only
  unfold iS;rw[Ï hi',È hx,Ey hi hs,À,hm,VT h.good.size.compares (by omega),À,Es h _ (rO hx),À,Ë hi' (by omega),Ċ,Bool.not_not];rfl
 ·try dsimp only
  unfold iS;rw[Ý]
def aeo (h:MOk m) {ids:List Int} (hi:ids.length≤60) {s:Nat} (hs:s<9223372036854775808) {op:List Int} (ho:op.length≤1000) (k0 k1:List Int→Option ρ):Ê (fun(v:Int×List Int) kk=>Ŗ (s:Int) (Œ m.2) (Ù (Œ m.2)) ids m.1.1.1 m.1.1.2 m.1.2.1 m.1.2.2.1 m.1.2.2.2.1 m.1.2.2.2.2.1 m.1.2.2.2.2.2 m.2 v.1 v.2 (fun a b=>kk (a,b)) k0 k1) ((0:Int),op)=if ky (sF m (Č ids s)) then k0 (op++[(s:Int)]) else k1 op:=by
 have hm:((((m.1.1.1,m.1.1.2),m.1.2.1,m.1.2.2.1,m.1.2.2.2.1,m.1.2.2.2.2.1,m.1.2.2.2.2.2),m.2):ņ)=m:=rfl;have hl2:=ug h;have hcl:=o9 ids s;refine K3 (Œ m.2) (fun _=>op) _ (fun i=>∀w∈(Œ m.2).take i,lL (sF m (Č ids s)) w=false) rfl (fun w hw=>by simp at hw) (fun i x hi' hx hp kn=>?_) (fun hp kn=>?_)
 ·try dsimp only
  unfold Ŗ;rw[Ï hi',È hx,Ey hi hs,À,hm,VT h.good.size.compares (by omega),À,Es h _ (rO hx),À,Ë hi' (by omega),ý (Õ (by simp; omega)),Ċ,Bool.not_not]
  cases hx2:lL (sF m (Č ids s)) x with
  |true =>
   refine .inl ?_;have:ky (sF m (Č ids s))=true:=dj.2 ⟨x,cP hx,hx2⟩;rw[this]; rfl
  |false =>
   refine .inr ⟨fun w hw=>?_,rfl⟩;rw[take_succ hx] at hw;rcases cN.1 hw with hw|hw
   ·exact hp w hw
   ·rw[cQ.1 hw]; exact hx2
 ·rw[fI] at hp
  try dsimp only
  unfold Ŗ
  have:ky (sF m (Č ids s))=false:=dN.2 fun w hw=>by rw[show lL (sF m (Č ids s)) w=false from hp w hw]; simp
  rw[Ý,this]; rfl
def aep {s:Nat} (hs:s<9223372036854775808) {op:List Nat} (ho:op.length≤1000) (hop:∀x∈op,x<9223372036854775808) (X Z:Option ρ):Ê (fun(v:Int) kk=>ŗ (s:Int) (Ù (op.map fun(x:Nat)=>(x:Int))) (op.map fun(x:Nat)=>(x:Int)) v (fun u=>kk u) (fun _=>X) (fun _=>Z)) 0=if op.any (agD s) then X else Z:=by
 refine ľ op (agD s) (fun _=>X) X Z (fun _=>rfl) (fun i x hi hx kn=>?_) (fun kn=>?_)
 ·try dsimp only
  unfold ŗ
  have hx':(op.map fun(x:Nat)=>(x:Int))[i]?=some (x:Int):=by rw[eA,hx]; rfl
  have hi':i<(op.map fun(x:Nat)=>(x:Int)).length:=by simpa using hi
  rw[Ï hi',Ĭ hi',ð hx',sub_i hs (hop x (cP hx)),Ë hi (by omega),Ċ]
 ·try dsimp only
  unfold ŗ;rw[Ô,Ð (by simp[ilt])]
def ag5 {l m:List Int} (h:l.length=m.length) (hp:∀(i:Nat) (x y:Int),l[i]?=some x→m[i]?=some y→x=y):aaN l m=0:=by
 induction l generalizing m with
 |nil=>cases m with|nil=>rfl|cons _ _=>cases h
 |cons x l ih =>
  cases m with
  |nil=>cases h
  |cons y m =>
   have e:=hp 0 x y rfl rfl;subst e;rw[aaN,if_neg (by omega),if_neg (by omega)];exact ih (by simpa using h) fun i a b ha hb=>hp (i+1) a b ha hb
def lex_at {l m:List Int} {i:Nat} {x y:Int} (hx:l[i]?=some x) (hy:m[i]?=some y) (hp:∀(j:Nat) (a b:Int),j<i→l[j]?=some a→m[j]?=some b→a=b) (hne:x≠y):aaN l m=if x<y then -1 else 1:=by
 induction l generalizing m i with
 |nil=>simp at hx
 |cons a l ih =>
  cases m with
  |nil=>simp at hy
  |cons b m =>
   cases i with
   |zero =>
    simp at hx hy; subst hx hy;rw[aaN]
    split
    ·rfl
    ·rw[if_pos (by omega)]
   |succ i =>
    have e:=hp 0 a b (by omega) rfl rfl;subst e;rw[aaN,if_neg (by omega),if_neg (by omega)];exact ih (by simpa using hx) (by simpa using hy) fun j a b hj ha hb=>hp (j+1) a b (by omega) ha hb
def aeq {l k:List Int} (h:k.length=l.length) (hl:l.length≤1000) (X Y:Option ρ):Ê (fun(v:Int) kk=>ŵ l k (Ù k) v (fun u=>kk u) (fun z=>ifb (ige z (0:Int)) X Y) (fun _=>X)) 0=if 0≤aaN k l then X else Y:=by
 have:=ė (r:=if 0≤aaN k l then X else Y) (f:=fun v kk=>ŵ l k (Ù k) v (fun u=>kk u) (fun z=>ifb (ige z (0:Int)) X Y) (fun _=>X)) (x:=(0:Int)) (fun x=>∃i:Nat,x=i∧i≤k.length∧∀(j:Nat) (a b:Int),j<i→k[j]?=some a→l[j]?=some b→a=b) (fun x=>k.length-x.toNat) ?_ ⟨0,rfl,dR _,fun j a b hj=>by omega⟩
 ·exact this
 ·rintro x ⟨i,rfl,hi,hp⟩;rcases dg i k.length with hlt|hge
  ·have hx:k[i]?=some k[i]:=cG hlt;have hy:l[i]?=some l[i]:=cG (by omega)
   have hf:∀kn,ŵ l k (Ù k) (i:Int) kn (fun z=>ifb (ige z (0:Int)) X Y) (fun _=>X)=if k[i]=l[i] then kn ((i:Int)+1) else if k[i]<l[i] then Y else X:=fun kn=>by
    unfold ŵ;rw[Ï hlt,È hx,Ð (by simp[ige,Ô]; omega),È hy,adg,À,Ë hlt (by omega)]
    by_cases h1:k[i]<l[i]
    ·rw[if_pos h1,if_neg (by omega),if_pos h1]; rfl
    ·rw[if_neg h1]
     by_cases h2:l[i]<k[i]
     ·rw[if_pos h2,if_neg (by omega),if_neg h1]; rfl
     ·rw[if_neg h2,if_pos (by omega)]; rfl
   by_cases he:k[i]=l[i]
   ·refine .inr ⟨(i:Int)+1,⟨i+1,by simp,hlt,fun j a b hj ha hb=>?_⟩,by omega,fun kn=>by rw[hf,if_pos he]⟩;rcases dg j i with h1|h1
    ·exact hp j a b h1 ha hb
    ·have:j=i:=by omega
     subst this;rw[hx] at ha; rw[hy] at hb;cases ha; cases hb;exact he
   ·refine .inl fun kn=>?_;rw[hf,if_neg he,lex_at hx hy hp he]
    by_cases h1:k[i]<l[i]
    ·rw[if_pos h1,if_pos h1]; rfl
    ·rw[if_neg h1,if_neg h1]; rfl
  ·refine .inl fun kn=>?_
   have:i=k.length:=by omega
   subst this;unfold ŵ;rw[Ý,ag5 h fun j a b ha hb=>hp j a b (List.getElem?_eq_some_iff.1 ha).1 ha hb];rfl
abbrev stI (st:List Int×Nat×List Nat) (n:Nat):List Int×Int×Int×List Int:=(st.1,(st.2.1:Int),(n:Int),st.2.2.map fun(x:Nat)=>(x:Int))
def ZA (h:MOk m) {ids:List Int} (hi:ids.length≤8) {n N:Nat} (hn:n<N) (hN:N≤256) {st:List Int×Nat×List Nat} (h1:st.1.length≤8) (ho:st.2.2.length≤n) (hop:∀x∈st.2.2,x<n) (kn:List Int→Int→Int→List Int→Option ρ) (k0:Int×List Int→Option ρ) :
 Ŷ (Œ m.2) (N:Int) ids m.1.1.1 m.1.1.2 m.1.2.1 m.1.2.2.1 m.1.2.2.2.1 m.1.2.2.2.2.1 m.1.2.2.2.2.2 m.2 (stI st n).1 (stI st n).2.1 (stI st n).2.2.1 (stI st n).2.2.2 kn k0=kn (stI (Hg m ids st n) (n+1)).1 (stI (Hg m ids st n) (n+1)).2.1 (stI (Hg m ids st n) (n+1)).2.2.1 (stI (Hg m ids st n) (n+1)).2.2.2:=by
 have hcl:=o9 ids n;dsimp only;unfold Ŷ
 have hop':∀x∈st.2.2,x<9223372036854775808:=fun x hx=>by have:=hop x hx; omega
 have ho':(st.2.2.map fun(x:Nat)=>(x:Int)).length≤1000:=by rw[dA]; omega
 have e1:∀f:Int→Option ρ,ck ((n:Int)+(1:Int)) f=f ((n+1:Nat):Int):=fun f=>by rw[Ó (by omega) (by omega)]; simp
 rw[Ú (by simp[ilt]; omega),Ey (by omega) (by omega),À];unfold Hg
 by_cases hgt:st.1.length<(Č ids n).length
 ·rw[Ú (by simp[igt,Ô]; omega),if_pos (.inl hgt),e1]
 ·rw[Ð (by simp[igt,Ô]; omega)]
  have inner:∀K1 K2:Option ρ,Ê (fun(v53:Int) kk55=>ŗ (n:Int) (Ù (st.2.2.map fun(x:Nat)=>(x:Int))) (st.2.2.map fun(x:Nat)=>(x:Int)) v53 (fun u54=>kk55 u54) (fun _=>ck ((n:Int)+(1:Int)) fun n38=>kn st.1 (st.2.1:Int) n38 (st.2.2.map fun(x:Nat)=>(x:Int))) (fun _=>Ê (fun(v49:Int×List Int) kk52=>Ŗ (n:Int) (Œ m.2) (Ù (Œ m.2)) ids m.1.1.1 m.1.1.2 m.1.2.1 m.1.2.2.1 m.1.2.2.2.1 m.1.2.2.2.2.1 m.1.2.2.2.2.2 m.2 v49.1 v49.2 (fun u50 u51=>kk52 (u50,u51)) (fun z45=>ck ((n:Int)+(1:Int)) fun n46=>kn st.1 (st.2.1:Int) n46 z45) (fun z47=>ck ((n:Int)+(1:Int)) fun n48=>kn (Č ids n) (n:Int) n48 z47)) ((0:Int),st.2.2.map fun(x:Nat)=>(x:Int)))) (0:Int) =
   (fun s2=>kn (stI s2 (n+1)).1 (stI s2 (n+1)).2.1 (stI s2 (n+1)).2.2.1 (stI s2 (n+1)).2.2.2) (if st.2.2.any (agD n) then st else if ky (sF m (Č ids n)) then(st.1,st.2.1,st.2.2++[n]) else(Č ids n,n,st.2.2)):=fun _ _=>by
   rw[aeo h (by omega) (by omega) ho',aep (by omega) (by omega) hop',e1,e1,e1]
   cases st.2.2.any (agD n) with
   |true=>rfl
   |false =>
    cases ky (sF m (Č ids n)) with
    |true=>simp
    |false=>rfl
  by_cases heq:(Č ids n).length=st.1.length
  ·rw[Ú (by simp[ieq,Ô]; omega),inner none none,Ð (show ilt (Ù (Č ids n)) (Ù st.1)=false by simp[ilt,Ô]; omega),aeq heq (by omega),e1]
   by_cases hlex:0≤aaN (Č ids n) st.1
   ·rw[if_pos hlex,if_pos (.inr ⟨heq,hlex⟩)]
   ·rw[if_neg hlex,if_neg (show ¬(st.1.length<(Č ids n).length∨((Č ids n).length=st.1.length∧0≤aaN (Č ids n) st.1)) from fun h=>h.elim hgt fun h=>hlex h.2)]
  ·rw[Ð (by simp[ieq,Ô]; omega),inner none none,if_neg (show ¬(st.1.length<(Č ids n).length∨((Č ids n).length=st.1.length∧0≤aaN (Č ids n) st.1)) from fun h=>h.elim hgt fun h=>heq h.1)]
def aej {ids:List Int} {n:Nat} {st:List Int×Nat×List Nat} (hi:ids.length≤8) (h1:st.1.length≤8) (h2:st.2.2.length≤n) (h3:∀x∈st.2.2,x<n):(Hg m ids st n).1.length≤8∧(Hg m ids st n).2.2.length≤n+1∧∀x∈(Hg m ids st n).2.2,x<n+1:=by
 have hcl:=o9 ids n;unfold Hg
 split
 ·exact⟨h1,by omega,fun x hx=>by have:=h3 x hx; omega⟩
 split
 ·exact⟨h1,by omega,fun x hx=>by have:=h3 x hx; omega⟩
 split
 ·refine⟨h1,by simp; omega,fun x hx=>?_⟩;rcases cN.1 hx with hx|hx
  ·have:=h3 x hx; omega
  ·rw[cQ.1 hx]; omega
 ·exact⟨by dsimp only; omega,by dsimp only; omega,fun x hx=>by have:=h3 x hx; omega⟩
def XW {ids:List Int} (hi:ids.length≤8):∀n,(Hj m ids n).1.length≤8∧(Hj m ids n).2.2.length≤n∧∀x∈(Hj m ids n).2.2,x<n
 |0=>⟨hi,cH _,fun x hx=>by cases hx⟩
 |n+1=>by
  obtain⟨h1,h2,h3⟩:=XW hi n;have:=aej (m:=m) hi h1 h2 h3;unfold Hj at this ⊢;rw[List.range_succ,List.foldl_append];exact this
def pow8 {n:Nat} (h:n≤8):1≤2 ^ n∧2 ^ n≤256:=⟨Nat.one_le_pow _ _ (by decide),Nat.pow_le_pow_right (by decide) h⟩
def YR {ids:List Int} (hi:ids.length≤8):∀n,n≤256→(Hj m ids n).2.1≤256
 |0,_=>by have:=(pow8 hi).2; show 2 ^ ids.length-1≤256; omega
 |n+1,hn=>by
  have ih:=YR hi n (by omega);unfold Hj at ih ⊢;rw[List.range_succ,List.foldl_append];show(Hg m ids _ n).2.1≤256;unfold Hg
  split
  ·exact ih
  split
  ·exact ih
  split
  ·exact ih
  ·dsimp only; omega
def Xy (hs:In m.1) (hn:m.2.length≤1000) {ids:List Int} (hil:ids.length≤1000000):rG m ids=some (adX m ids):=by
 unfold rG xq adX;rw[j7 hs hn,À]
 by_cases hc:ę m=0
 ·have h:=(ĩ m).1 hc;rw[Ð (by simp[ine,hc]),if_neg (by simp[hc])]
  by_cases h8:8<ids.length
  ·rw[Ú (by simp[igt,Ô]; omega),if_pos h8]
  ·have hi:ids.length≤8:=by omega
   obtain⟨p1,p2⟩:=pow8 hi;rw[Ð (by simp[igt,Ô]; omega),if_neg h8,aet h.good.size.compares (by omega)]
   cases ids.all (fun i=>(WZ m).contains i) with
   |false=>rfl
   |true =>
    rw[if_pos rfl,if_neg (by simp),aes (by omega)]
    by_cases hp:ids.Pairwise (·<·)
    ·have hsh:shlI .i64 (1:Int) (Ù ids)=((2 ^ ids.length:Nat):Int):=by
      unfold shlI;rw[Ô,Int.toNat_natCast,Nat.min_eq_left (by show ids.length≤64; omega),Int.one_mul,show((2:Int) ^ ids.length)=((2 ^ ids.length:Nat):Int) by simp,aaV (by omega)]
     have e0:((2 ^ ids.length:Nat):Int)-1=((2 ^ ids.length-1:Nat):Int):=by omega
     rw[if_pos hp,if_neg (by simpa using hp),IM h,À,ý (by simp[ile,Ô]),hsh,Ó (by omega) (by omega),e0]
     have loop:Ê (fun(v91:List Int×Int×Int×List Int) kk96=>Ŷ (Œ m.2) ((2 ^ ids.length-1:Nat):Int) ids m.1.1.1 m.1.1.2 m.1.2.1 m.1.2.2.1 m.1.2.2.2.1 m.1.2.2.2.2.1 m.1.2.2.2.2.2 m.2 v91.1 v91.2.1 v91.2.2.1 v91.2.2.2 (fun u92 u93 u94 u95=>kk96 (u92,u93,u94,u95)) (fun z89=>Ä (iE ids z89.1) fun r90=>some (r90,(0:Int)))) (ids,((2 ^ ids.length-1:Nat):Int),(0:Int),[])=some (Č ids (Hj m ids (2 ^ ids.length-1)).2.1,0):=by
      refine ė (fun x=>∃n:Nat,n≤2 ^ ids.length-1∧x=stI (Hj m ids n) n) (fun x=>2 ^ ids.length-1-x.2.2.1.toNat) ?_ ⟨0,dR _,rfl⟩;rintro x ⟨n,hn',rfl⟩;obtain⟨i1,i2,i3⟩:=XW (m:=m) hi n;rcases dg n (2 ^ ids.length-1) with hlt|hge
      ·refine .inr ⟨stI (Hj m ids (n+1)) (n+1),⟨n+1,hlt,rfl⟩,by dsimp only; omega,fun kn=>?_⟩;have:=ZA h hi hlt (by omega) i1 i2 i3 (fun a b c d=>kn (a,b,c,d)) (fun z89=>Ä (iE ids z89.1) fun r90=>some (r90,(0:Int)));rw[this];unfold Hj;rw[List.range_succ,List.foldl_append]; rfl
      ·have:n=2 ^ ids.length-1:=by omega
       subst this;refine .inl fun kn=>?_;have hf:=YR (m:=m) hi (2 ^ ids.length-1) (by omega);dsimp only;unfold Ŷ;rw[Ð (by simp[ilt])];dsimp only;rw[Ey (by omega) (by omega)]; rfl
     have h3:=aer h (ids:=ids) (by omega) (s:=2 ^ ids.length-1) (by omega) (some ([],(5:Int))) (some (Č ids (Hj m ids (2 ^ ids.length-1)).2.1,0));rw[loop,h3]
     split<;>rfl
    ·rw[if_neg hp,if_pos hp]
 ·rw[Ú (by simp[ine,hc]),if_pos hc]
end
def UF (b:Ĕ) (x d:Int):Int:=match jB (Ò b) x d with|some j=>(j:Int)+1|none=>0
def Mb (b:Ĕ) (n:Int×Int):Int×Int:=if Ġ b≠0 then(0,Ġ b) else if UF b n.1 n.2=0 then(0,5) else(UF b n.1 n.2,0)
def Mc {b:Ĕ} (h:In b) (n:Int×Int):pW b n=some (Mb b n):=by
 have hl:=Oh h.size;unfold pW KX Mb;rw[rN h.size h.num,À]
 by_cases hc:Ġ b=0
 ·rw[Ð (by simp[ine,hc]),if_neg (show ¬(Ġ b≠0) from fun h=>h hc),PJ h.size,À,show ñ (Ò b) n=ñ (Ò b) (n.1,n.2) from rfl,Vj (by omega),À];unfold UF
  cases hx:jB (Ò b) n.1 n.2 with
  |none=>rfl
  |some j =>
   have:=(kj hx).1;simp only;rw[Ð (by simp[ilt]),Ó (by omega) (by omega),if_neg (by omega)]
 ·rw[Ú (by simp[ine,hc]),if_pos hc]
def Ū (b:Ĕ) (n:Int×Int):Ĕ:=(b.1,b.2.1,b.2.2.1,b.2.2.2.1,b.2.2.2.2.1,b.2.2.2.2.2++[n])
def ach {b:Ĕ} (h:Ξ b) (n:Int×Int):t8 (Ū b n):=by
 have hs:=h.size;have:=h.nK;exact⟨hs.gauges,hs.uses,hs.loans,hs.compares,by simp[Ū]; omega,hs.piles⟩
def ahF (b:Ĕ) (n:Int×Int):Ĕ×Int:=if Ġ b≠0 then(Va,Ġ b) else if Ġ (Ū b n)≠0 then(Va,Ġ (Ū b n)) else(Ū b n,0)
def ahE {b:Ĕ} (h:In b) (n:Int×Int):IC b n=some (ahF b n):=by
 have hs:=h.size;have h1:=hs.gauges; have h2:=hs.uses; have h3:=hs.loans; have h4:=hs.compares; have h5:=hs.looks;unfold IC Q5 ahF;rw[rN hs h.num,À]
 by_cases hc:Ġ b=0
 ·have hg:=(ś b).1 hc;rw[Ð (by simp[ine,hc]),Õ (by omega),Am.iff_true,Õ (by omega),Am.iff_true,Õ (by omega),Am.iff_true,Õ (by omega),Am.iff_true,Õ (by omega),Am.iff_true,if_neg (show ¬(Ġ b≠0) from fun h=>h hc)];refine ģ b.2.2.2.2.1 (fun _=>b.2.2.2.2.1) _ rfl (fun i d hi hd kn=>?_) (fun kn=>?_)
  ·dsimp only;unfold vn;obtain⟨p1,p2⟩:=hs.piles d (List.mem_of_getElem? hd)
   have e1:b.2.2.2.2.1.set i d=b.2.2.2.2.1:=by
    obtain⟨h,rfl⟩:=cJ.1 hd;exact List.set_getElem_self h
   rw[Ï hi,Ĭ hi,ð hd,Õ (by omega),Am.iff_true,Õ (by omega),Am.iff_true,Ĭ hi,ð hd,cW];rw[show(d.1,d.2.1,d.2.2.1,d.2.2.2)=d from rfl,e1,Ĭ hi,iN hd,Ë hi (by omega)];rw[show(d.1,d.2.1,d.2.2.1,d.2.2.2.1,d.2.2.2.2)=d from rfl,e1]
  ·try dsimp only
   unfold vn;rw[Ý];dsimp only;rw[Õ (by simp only[List.length_singleton]; omega),Am.iff_true];rw[show ĭ (b.1,b.2.1,b.2.2.1,b.2.2.2.1,b.2.2.2.2.1,b.2.2.2.2.2++[n])=ĭ (Ū b n) from rfl,rN (ach hg n) h.num,À]
   by_cases hc2:Ġ (Ū b n)=0
   ·rw[Ð (by simp[ine,hc2]),if_neg (show ¬(Ġ (Ū b n)≠0) from fun h=>h hc2)];rfl
   ·rw[Ú (by simp[ine,hc2]),if_pos hc2];rfl
 ·rw[Ú (by simp[ine,hc]),if_pos hc];rfl
def rQ (b:Ĕ) (n:Int×Int):Ĕ×Int:=if UF b n.1 n.2≠0 then(b,0) else if Ġ (Ū b n)≠0 then(Va,Ġ (Ū b n)) else(Ū b n,0)
structure Room (B:Ĕ):Prop where
 good:Ξ B
 op:kI (i6 B) ((Ò B).length+1)=true
 num:∀g∈B.2.1,I64 g.2.2.2.2.1.1
def ag7 (B:Ĕ) (n:Int×Int):0≤UF B n.1 n.2∧UF B n.1 n.2<((Ò B).length+1:Nat):=by
 unfold UF
 cases h:jB (Ò B) n.1 n.2 with
 |none=>dsimp only; omega
 |some j=>have:=(kj h).1; dsimp only; omega
def dstR (B:Ĕ) (s t:Int):Int:=dst (i6 B) ((Ò B).length+1) s t
def ivR (B:Ĕ) (n:Int×Int):Int×Int:=(-(dstR B (UF B n.1 n.2) 0),dstR B 0 (UF B n.1 n.2))
def OV {ρ α:Type} {l:List α} {i:Int} (h0:0≤i) {a:α} (h:l[i.toNat]?=some a) (f:α→Option ρ):Ĥ l i f=f a:=by
 obtain⟨n,rfl⟩:=Int.eq_ofNat_of_zero_le h0;exact È (by simpa using h) f
def i9 (x:List Int) (y:List Int) (l:Lk):List Int:=if gv x l.2.1=Š then y else y.set l.1.toNat (min (gv y l.1) (l.2.2+gv x l.2.1))
def O6 (L:List Lk) (N:Nat) (x:List Int):List Int:=L.foldl (i9 x) (List.replicate N Š)
def exL (L:List Lk) (N:Nat) (to:Int):Nat→List Int
 |0=>(List.replicate N Š).set to.toNat 0
 |k+1=>O6 L N (exL L N to k)
def lW (L:List Lk) (N:Nat) (to:Int) (most:Nat):List (List Int):=(List.range (most+1)).map (exL L N to)
section
variable {L:List Lk} {N:Nat}
def Gc (x y:List Int) (l:Lk):(i9 x y l).length=y.length:=by unfold i9; split<;>simp
def Gd (x:List Int):∀(M:List Lk) (y:List Int),(M.foldl (i9 x) y).length=y.length
 |[],y=>rfl
 |l::M,y=>by rw[f9,Gd x M,Gc]
def aai (x:List Int):(O6 L N x).length=N:=by unfold O6; rw[Gd]; simp
def W8 (to:Int) (k:Nat):(exL L N to k).length=N:=by
 cases k with
 |zero=>simp[exL]
 |succ k=>exact aai _
def Lim (B:Int) (x:List Int):Prop:=∀v:Int,gv x v≠Š→-B≤gv x v∧gv x v≤B
def gv_out {x:List Int} {v:Int} (h:¬v.toNat<x.length):gv x v=0:=by
 unfold gv;rw[List.getElem?_eq_none (by omega)];rfl
def K4 {B:Int} (hB:0≤B):Lim B (List.replicate N Š):=by
 intro v hv
 by_cases h:v.toNat<N
 ·exfalso; apply hv;unfold gv;rw[List.getElem?_replicate,if_pos h];rfl
 ·rw[gv_out (by simpa using h)]; omega
def acs {B:Int} {y:List Int} (hy:Lim B y) {u:Int} (hu:0≤u) (hl:u.toNat<y.length) {a:Int} (ha:a≠Š→-B≤a∧a≤B):Lim B (y.set u.toNat a):=by
 intro v hv
 by_cases h:v.toNat=u.toNat
 ·have:gv (y.set u.toNat a) v=a:=by
   unfold gv;rw[h,List.getElem?_set_self hl];rfl
  rw[this] at hv ⊢;exact ha hv
 ·have:gv (y.set u.toNat a) v=gv y v:=by
   unfold gv;rw[List.getElem?_set_ne (fun e=>h e.symm)]
  rw[this] at hv ⊢;exact hy v hv
def Yy (hS:jr L N) {B:Int} (hB:0≤B) (hB2:B≤1000000000000000000) {x y:List Int} (hx:Lim B x) (hy:Lim (B+4503599627370496) y) (hl:y.length=N) {l:Lk} (hm:l∈L):Lim (B+4503599627370496) (i9 x y l):=by
 unfold i9
 split
 ·exact hy
 ·rename_i hf;have h1:=hS.inr l hm;have h2:=hS.most l hm;have h3:=hx _ hf;refine acs hy h1.1.1 (by omega) fun ha=>?_
  by_cases h4:gv y l.1=Š
  ·rw[h4] at ha ⊢
   have:min Š (l.2.2+gv x l.2.1)=l.2.2+gv x l.2.1:=by unfold Š; omega
   rw[this]; omega
  ·have:=hy _ h4;omega
def Yz (hS:jr L N) {B:Int} (hB:0≤B) (hB2:B≤1000000000000000000) {x:List Int} (hx:Lim B x):∀(M:List Lk),(∀l∈M,l∈L)→∀y:List Int,y.length=N→Lim (B+4503599627370496) y→Lim (B+4503599627370496) (M.foldl (i9 x) y)
 |[],_,y,_,hy=>hy
 |l::M,hM,y,hl,hy=>by
  rw[f9];exact Yz hS hB hB2 hx M (fun m hm=>hM m (by simp[hm])) _ (by rw[Gc,hl]) (Yy hS hB hB2 hx hy hl (hM l (by simp)))
def BW (hS:jr L N) {to:Int} (ht:0≤to∧to<N):∀k:Nat,k≤200→Lim (k*4503599627370496) (exL L N to k)
 |0,_=>by
  unfold exL;exact acs (K4 (by omega)) ht.1 (by simp; omega) (fun _=>by omega)
 |k+1,hk=>by
  have:=Yz hS (B:=k*4503599627370496) (by omega) (by omega) (BW hS ht k (by omega)) L (fun _ h=>h) (List.replicate N Š) (by simp) (K4 (by omega));unfold exL O6
  have e:(((k+1:Nat):Int)*4503599627370496)=(k:Int)*4503599627370496+4503599627370496:=by push_cast; omega
  rw[e];exact this
def UL {ρ:Type} (hN:N≤1000) (K:List Int→Option ρ) {f:Int×List Int→(Int×List Int→Option ρ)→Option ρ}
 (hf:∀(v:Int×List Int) kk,f v kk=yH (N:Int) v.1 v.2 (fun u34 u35=>kk (u34,u35)) K):Ê f ((0:Int),List.replicate N (0:Int))=K (List.replicate N Š):=by
 refine ģ (List.replicate N (0:Int)) (fun i=>List.replicate i Š++List.replicate (N-i) (0:Int)) _ (by simp) (fun i a hi ha kn=>?_) (fun kn=>?_)
 ·rw[hf];dsimp only;unfold yH;rw[List.length_replicate] at hi
  have hlen:(List.replicate i Š++List.replicate (N-i) (0:Int)).length=N:=by simp; omega
  have e1:ilt (i:Int) (N:Int)=true:=decide_eq_true (by omega);rw[Ú e1,show í (List.replicate i Š++List.replicate (N-i) (0:Int))=(N:Int) by unfold í; rw[hlen],Α (by omega) (by omega),j9 (by rw[hlen]; omega),Ó (by omega) (by omega)];congr 2;rw[Int.toNat_natCast];rw[List.set_append_right _ _ (by simp),List.length_replicate,Nat.sub_self];rw[show N-i=(N-(i+1))+1 by omega,List.replicate_succ,List.set_cons_zero,List.replicate_succ'];simp
 ·rw[hf];dsimp only;unfold yH;rw[List.length_replicate];have e1:ilt (N:Int) (N:Int)=false:=decide_eq_false (by omega);rw[Ð e1];simp
def okN (hN:N≤1000) {ρ:Type} (x:Option ρ):á ((ile (0:Int) (N:Int))&&(è (Int.toNat (N:Int)))) x=x:=by
 rw[ý];rw[cW,Õ (by omega),Bool.and_true];exact decide_eq_true (by omega)
def acr {ρ:Type} (hS:jr L N) {B:Int} (hB:0≤B) (hB2:B≤1000000000000000000) {x:List Int} (hx:Lim B x) (hxl:x.length=N) (K:List Int→Option ρ) :
 Ê (fun(v20:(Val (.pair tI (.slice tI)))) kk23=>Dm x L (Ù L) v20.1 v20.2 (fun u21 u22=>kk23 (u21,u22)) K) ((0:Int),List.replicate N Š)=K (O6 L N x):=by
 have hl3:=hS.len;refine ģ L (fun i=>(L.take i).foldl (i9 x) (List.replicate N Š)) _ rfl (fun i l hi hl kn=>?_) (fun kn=>?_)
 ·try dsimp only
  unfold Dm;have hm:=List.mem_of_getElem? hl;have h1:=hS.inr l hm;have h2:=hS.most l hm;rw[Ï hi,È hl,vt h1.2.1 (by omega),take_succ hl,List.foldl_append,Ë hi (by omega)]
  have hlen:((L.take i).foldl (i9 x) (List.replicate N Š)).length=N:=by rw[Gd]; simp
  generalize (L.take i).foldl (i9 x) (List.replicate N Š)=y at hlen ⊢
  by_cases hf:gv x l.2.1=Š
  ·rw[Ð (by rw[hf]; rfl)];simp only[List.foldl_cons,List.foldl_nil];unfold i9;rw[if_pos hf]
  ·have h3:=hx _ hf;rw[Ú (bne_iff_ne.2 hf),show í y=(N:Int) by unfold í; rw[hlen],Α h1.1.1 h1.1.2,j9 (by omega),vt h1.2.1 (by omega),Ó (by omega) (by omega),Α h1.1.1 h1.1.2,j9 (by omega),Ë hi (by omega)];simp only[List.foldl_cons,List.foldl_nil];unfold i9;rw[if_neg hf,WW]
 ·try dsimp only
  unfold Dm;rw[Ý,List.take_length];rfl
def afb {ρ:Type}:@Qn ρ=@yH ρ:=rfl
def Ga (to:Int) (m:Nat):(lW L N to m).length=m+1:=by simp[lW]
def Gb {to:Int} {m k:Nat} (hk:k≤m):(lW L N to m)[k]?=some (exL L N to k):=by
 unfold lW;rw[List.getElem?_map,List.getElem?_range (by omega)];rfl
def afa (hS:jr L N) {to:Int} (ht:0≤to∧to<N) {most:Nat} (hm:most≤100):En ((N:Int),L) to (most:Int)=some (lW L N to most):=by
 have hN:=hS.n60
 unfold En J9
 dsimp only;rw[okN (by omega),Int.toNat_natCast];refine(UL (by omega) _ (fun v kk=>by rw[Ô,List.length_replicate])).trans ?_;rw[show í (List.replicate N Š)=(N:Int) by simp[í],Α ht.1 ht.2,j9 (by simp; omega)];refine ģ (List.replicate most ()) (fun i=>lW L N to i) _ (by simp[lW,exL]) (fun i a hi ha kn=>?_) (fun kn=>?_)
 ·try dsimp only
  unfold Il;rw[List.length_replicate] at hi;have e1:ilt (i:Int) (most:Int)=true:=decide_eq_true (by omega);rw[Ú e1,Ô,Ga]
  have e2:(((i+1:Nat):Int)-1)=(i:Int):=by omega
  rw[e2,Ó (by omega) (by omega),show í (lW L N to i)=((i+1:Nat):Int) by unfold í; rw[Ga],Α (by omega) (by omega),Int.toNat_natCast,iN (Gb (Nat.le_refl i)),okN (by omega),Int.toNat_natCast];rw[afb];refine(UL (by omega) _ (fun v kk=>by rw[Ô,List.length_replicate])).trans ?_;refine(acr hS (B:=i*4503599627370496) (by omega) (by omega) (BW hS ht i (by omega)) (W8 _ _) _).trans ?_;rw[ý (Õ (by simp only[Ga,List.length_singleton]; omega)),Ó (by omega) (by omega)];congr 2;unfold lW;rw[List.range_succ (n:=i+1),List.map_append];rfl
 ·try dsimp only
  unfold Il;rw[List.length_replicate];have e1:ilt (most:Int) (most:Int)=false:=decide_eq_false (by omega);rw[Ð e1]
def PM (L:List Lk) (x:List Int) (good:Int→Bool) (u sum:Int):Option Nat:=L.findIdx? fun l=>l.1==u&&(decide (gv x l.2.1≠Š)&&good (sum+l.2.2+gv x l.2.1))
def oe (L:List Lk) (rest:Nat→List Int) (good:Int→Bool):Nat→Int→Int→List Int→List Int
 |0,_,_,out=>out
 |k+1,u,sum,out=>match PM L (rest k) good u sum with
  |some i=>oe L rest good k (L[i]?.getD (0,0,0)).2.1 (sum+(L[i]?.getD (0,0,0)).2.2) (out++[(i:Int)])
  |none=>oe L rest good k u sum out
def folL {ρ:Type} (good:Int→Bool) (c0:Int) (c1:List (List Int)) (c2:List Lk) (c3:Int) (v0:Int) (v1:Int) (v2:Int) (v3:List Int) (kn:Int→Int→Int→List Int→Option ρ) (k0:Int×Int×List Int→Option ρ):Option ρ :=
 ifb (ilt v2 c3) (Ĥ c2 v2 fun e7=>ifb (ieq e7.1 v0) (ck (c0-(1:Int)) fun n8=>Ĥ c1 n8 fun e9=>Ĥ e9 e7.2.1 fun e10=>ifb (ine e10 (1152921504606846976:Int)) (ck (v1+e7.2.2) fun n11=>ck (c0-(1:Int)) fun n12=>Ĥ c1 n12 fun e13=>Ĥ e13 e7.2.1 fun e14=>ck (n11+e14) fun n15=>ifb (good n15) (á (è ((List.length v3)+(List.length ([v2])))) (ck (v1+e7.2.2) fun n16=>k0 (e7.2.1,n16,(v3++([v2]))))) (ck (v2+(1:Int)) fun n17=>kn v0 v1 n17 v3)) (ck (v2+(1:Int)) fun n18=>kn v0 v1 n18 v3)) (ck (v2+(1:Int)) fun n19=>kn v0 v1 n19 v3)) (k0 (v0,v1,v3))
def ahd {ρ:Type} (hS:jr L N) (good:Int→Bool) {rest:List (List Int)} {k:Nat} {x:List Int} (hr:rest[k]?=some x) (hk:k≤100) (hx:Lim 1000000000000000000 x) (hxl:x.length=N) {u sum:Int} (hs : -1000000000000000000≤sum∧sum≤1000000000000000000) {out:List Int} (ho:out.length≤1000)
 (K:Int×Int×List Int→Option ρ):Ê (fun(v:Int×Int×Int×List Int) kk=>folL good ((k+1:Nat):Int) rest L (Ù L) v.1 v.2.1 v.2.2.1 v.2.2.2 (fun a b c d=>kk (a,b,c,d)) K) (u,sum,(0:Int),out) =
  match PM L x good u sum with|some i=>K ((L[i]?.getD (0,0,0)).2.1,sum+(L[i]?.getD (0,0,0)).2.2,out++[(i:Int)])|none=>K (u,sum,out):=by
 have hl3:=hS.len;refine ė (fun v=>∃i:Nat,i≤L.length∧v=(u,sum,(i:Int),out)∧∀j l,j<i→L[j]?=some l→(l.1==u&&(decide (gv x l.2.1≠Š)&&good (sum+l.2.2+gv x l.2.1)))=false) (fun v=>L.length-v.2.2.1.toNat) ?_ ⟨0,by omega,rfl,fun j l h=>by omega⟩;rintro v ⟨i,hi,rfl,hp⟩
 have e0:(((k+1:Nat):Int)-1)=(k:Int):=by omega
 rcases dg i L.length with h2|h2
 ·have hl:L[i]?=some L[i]:=cG h2;generalize L[i]=l at hl;have hm:=cP hl;have h1:=hS.inr l hm;have h4:=hS.most l hm
  have hstep:(l.1==u&&(decide (gv x l.2.1≠Š)&&good (sum+l.2.2+gv x l.2.1)))=false→∃y,(∃i:Nat,i≤L.length∧y=(u,sum,(i:Int),out)∧∀j l,j<i→L[j]?=some l→(l.1==u&&(decide (gv x l.2.1≠Š)&&good (sum+l.2.2+gv x l.2.1)))=false)∧(L.length-y.2.2.1.toNat<L.length-((u,sum,(i:Int),out):Int×Int×Int×List Int).2.2.1.toNat)∧y=(u,sum,(i:Int)+1,out):=fun hf =>
   ⟨_,⟨i+1,h2,by rw[show((i+1:Nat):Int)=(i:Int)+1 by push_cast; rfl],fun j m hj hm=>by
    rcases gH.1 hj with h|rfl
    ·exact hp j m h hm
    ·rw[hl] at hm; cases hm; exact hf⟩,by simp; omega,rfl⟩
  by_cases hf:(l.1==u&&(decide (gv x l.2.1≠Š)&&good (sum+l.2.2+gv x l.2.1)))=true
  ·refine .inl fun kn=>?_
   have hfi:PM L x good u sum=some i:=by
    unfold PM;rw[List.findIdx?_eq_some_iff_getElem];obtain⟨hh,rfl⟩:=List.getElem?_eq_some_iff.1 hl;exact⟨h2,hf,fun j hj=>by have:=hp j _ hj (List.getElem?_eq_getElem (by omega)); rw[this]; simp⟩
   rw[hfi];simp only[Bool.and_eq_true,beq_iff_eq,decide_eq_true_eq] at hf;have h5:=hx _ hf.2.1;dsimp only;unfold folL
   rw[Ï h2,È hl,Ú (by simp[hf.1]),e0,Ó (by omega) (by omega),È hr,vt h1.2.1 (by omega),Ú (bne_iff_ne.2 hf.2.1),Ó (by omega) (by omega),Ó (by omega) (by omega),È hr,vt h1.2.1 (by omega),Ó (by omega) (by omega),Ú hf.2.2,
    ý (Õ (by simp; omega)),Ó (by omega) (by omega),hl]
   rfl
  ·have hf':=Bool.not_eq_true _▸hf;obtain⟨y,hy1,hy2,rfl⟩:=hstep hf';refine .inr ⟨_,hy1,hy2,fun kn=>?_⟩;dsimp only;unfold folL;rw[Ï h2,È hl,Ë h2 (by omega)]
   by_cases g1:l.1=u
   ·rw[Ú (by simp[g1]),e0,Ó (by omega) (by omega),È hr,vt h1.2.1 (by omega)]
    by_cases g2:gv x l.2.1=Š
    ·rw[Ð (by rw[g2]; rfl)]
    ·have h5:=hx _ g2
     have g3:good (sum+l.2.2+gv x l.2.1)=false:=by simpa[g1,g2] using hf'
     rw[Ú (bne_iff_ne.2 g2),Ó (by omega) (by omega),Ó (by omega) (by omega),È hr,vt h1.2.1 (by omega),Ó (by omega) (by omega),Ð g3]
   ·rw[Ð (by simpa using g1)]
 ·refine .inl fun kn=>?_
  obtain rfl:i=L.length:=by omega
  have hfi:PM L x good u sum=none:=by
   unfold PM;rw[List.findIdx?_eq_none_iff];intro l hl;obtain⟨j,hj,rfl⟩:=List.mem_iff_getElem.1 hl;exact hp j _ hj (List.getElem?_eq_getElem hj)
  rw[hfi];dsimp only;unfold folL;rw[Ý]
def folM {ρ:Type} (good:Int→Bool) (c0:List (List Int)) (c6:List Lk) (v0:Int) (v1:Int) (v2:Int) (v3:List Int) (kn:Int→Int→Int→List Int→Option ρ) (k0:List Int→Option ρ):Option ρ :=
 ifb (igt v1 (0:Int)) (Ê (fun(v22:Int×Int×Int×List Int) kk27=>folL good v1 c0 c6 (Ù c6) v22.1 v22.2.1 v22.2.2.1 v22.2.2.2 (fun u23 u24 u25 u26=>kk27 (u23,u24,u25,u26)) (fun z20=>ck (v1-(1:Int)) fun n21=>kn z20.1 n21 z20.2.1 z20.2.2)) (v0,v2,(0:Int),v3)) (k0 v3)
def ahc {ρ:Type} (hS:jr L N) (good:Int→Bool) {rest:List (List Int)} {R:Nat→List Int} {k0:Nat} (hk:k0≤100) (hr:∀k,k<k0→rest[k]?=some (R k)) (hx:∀k,k<k0→Lim 900000000000000000 (R k)∧(R k).length=N) (u:Int) (K:List Int→Option ρ) :
 Ê (fun(v:Int×Int×Int×List Int) kk=>folM good rest L v.1 v.2.1 v.2.2.1 v.2.2.2 (fun a b c d=>kk (a,b,c,d)) K) (u,(k0:Int),(0:Int),[])=K (oe L R good k0 u 0 []):=by
 have key:=tK (f:=fun(v:Int×Int×Int×List Int) kk=>folM good rest L v.1 v.2.1 v.2.2.1 v.2.2.2 (fun a b c d=>kk (a,b,c,d)) K) (F:=fun v=>K (oe L R good v.2.1.toNat v.1 v.2.2.1 v.2.2.2))
  (fun v=>∃k:Nat,v.2.1=k∧k≤k0∧(-(((k0-k:Nat):Int)*4503599627370496)≤v.2.2.1∧v.2.2.1≤((k0-k:Nat):Int)*4503599627370496)∧v.2.2.2.length≤k0-k) (fun v=>v.2.1.toNat) (fun v hv kn hk=>?_) (x:=(u,(k0:Int),0,[])) ⟨k0,rfl,cH _,by simp,by simp⟩
 ·rw[key]; simp
 ·obtain⟨u,k',sum,out⟩:=v;obtain⟨k,e,h1,h2,h3⟩:=hv;dsimp only at e h2 h3 hk ⊢;subst e;rw[Int.toNat_natCast] at hk ⊢;unfold folM
  cases k with
  |zero =>
   rw[Ð (by rfl)];rfl
  |succ k =>
   rw[Ú (decide_eq_true (by omega))];have hh:=hx k (by omega)
   have hlim:Lim 1000000000000000000 (R k):=fun v hv=>by have:=hh.1 v hv; omega
   refine(ahd hS good (hr k (by omega)) (by omega) hlim hh.2 (by omega) (by omega) _).trans ?_;unfold oe
   have e0:(((k+1:Nat):Int)-1)=(k:Int):=by omega
   cases hn:PM L (R k) good u sum with
   |none =>
    dsimp only;rw[e0,Ó (by omega) (by omega),hk _ ⟨k,rfl,by omega,by dsimp only; omega,by dsimp only; omega⟩ (by simp)];simp
   |some i =>
    have hi:i<L.length:=by
     unfold PM at hn;exact(List.findIdx?_eq_some_iff_getElem.1 hn).1
    have hl:L[i]?=some L[i]:=List.getElem?_eq_getElem hi;have h4:=hS.most L[i] (List.getElem_mem _);dsimp only;rw[hl];simp only[Option.getD_some];rw[e0,Ó (by omega) (by omega),hk _ ⟨k,rfl,by omega,by dsimp only; omega,by simp; omega⟩ (by simp)];simp
end
def AZ (L:List Lk):Int→Int→List Int→Int×Int×Bool
 |u,s,[]=>(u,s,true)
 |u,s,i::t=>if (L[i.toNat]?.getD (0,0,0)).1=u then AZ L (L[i.toNat]?.getD (0,0,0)).2.1 (s+(L[i.toNat]?.getD (0,0,0)).2.2) t else(0,0,false)
def AX (L:List Lk) (i:Int):Bool:=decide (i<0)||decide ((L.length:Int)≤i)
def lq (L:List Lk) (l:List Int):Int:=if 80<l.length then 2 else if l.any (AX L) then 1 else 0
def Y0 (u:Int) (w:Int×Int×Bool):Int:=if w.2.2=true∧w.1=u∧w.2.1<0 then 0 else 8
def ş (L:List Lk) (l:List Int):Int :=
 if lq L l≠0 then lq L l else match l with
 |[]=>8
 |i::_=>Y0 (L[i.toNat]?.getD (0,0,0)).1 (AZ L (L[i.toNat]?.getD (0,0,0)).1 0 l)
section
variable {L:List Lk} {N:Nat}
def aac (N:Int) (hL:L.length≤1000) (l:List Int):vx (N,L) l=some (lq L l):=by
 unfold vx BA lq;dsimp only;rw[Ô]
 by_cases h:80<l.length
 ·rw[Ú (decide_eq_true (by omega)),if_pos h]
 ·rw[Ð (decide_eq_false (by omega)),if_neg h,←Ô l];refine(ľ l (AX L) (fun z=>ifb (ige z 0) (some 1) (some 0)) (some 1) (some 0) (fun j=>by rw[show ige (j:Int) 0=true from decide_eq_true (by omega)]; rfl) (fun i a hi ha kn=>?_) (fun kn=>?_)).trans ?_
  ·try dsimp only
   unfold mM AX;rw[Ï hi,È ha,Ë hi (by omega),Ô,Ċ,Ċ]
   by_cases h1:a<0
   ·simp[ilt,h1]
   ·by_cases h2:(L.length:Int)≤a
    ·simp[ilt,ige,h1,h2]
    ·simp[ilt,ige,h1,h2]
  ·try dsimp only
   unfold mM;rw[Ý]
  ·cases l.any (AX L)<;>rfl
def WY {l:List Int} (h:lq L l=0):l.length≤80∧∀i∈l,0≤i∧i.toNat<L.length:=by
 unfold lq at h
 split at h
 ·omega
 ·rename_i h1
  split at h
  ·omega
  ·rename_i h2;refine⟨by omega,fun i hi=>?_⟩;have:=dN.1 (ej.2 h2) i hi;simp[AX] at this;omega
def ags (hS:jr L N) (u:Int) {l:List Int} (h:lq L l=0):Iz ((N:Int),L) u l=some (AZ L u 0 l):=by
 obtain⟨hl,hi⟩:=WY h;unfold Iz Ql;dsimp only
 have:=tK (f:=fun(v7:Int×Int×Int) kk11=>uN l (Ù l) L v7.1 v7.2.1 v7.2.2 (fun u8 u9 u10=>kk11 (u8,u9,u10)) (fun z5=>some (z5.1,z5.2.1,z5.2.2)) (fun z6=>some (z6.1,z6.2,true)))
  (F:=fun v=>some (AZ L v.1 v.2.1 (l.drop v.2.2.toNat))) (fun v=>∃i:Nat,v.2.2=i∧i≤l.length∧(-(i*4503599627370496)≤v.2.1∧v.2.1≤i*4503599627370496)) (fun v=>l.length-v.2.2.toNat) (fun v hv kn hk=>?_) (x:=(u,(0:Int),(0:Int))) ⟨0,rfl,by omega,by simp⟩
 ·exact this
 ·obtain⟨w,s,n⟩:=v;obtain⟨i,e,h1,h2⟩:=hv;dsimp only at e h2 hk ⊢;subst e;rw[Int.toNat_natCast] at hk ⊢;unfold uN;rcases Nat.lt_or_ge i l.length with h3|h3
  ·have ha:l[i]?=some l[i]:=List.getElem?_eq_getElem h3;have hd:l.drop i=l[i]::l.drop (i+1):=List.drop_eq_getElem_cons h3;rw[hd];have hx:=hi l[i] (List.getElem_mem _);generalize l[i]=a at ha hx;have hg:L[a.toNat]?=some L[a.toNat]:=List.getElem?_eq_getElem hx.2;have hm:=hS.most _ (List.mem_of_getElem? hg);generalize L[a.toNat]=x at hg hm;rw[Ï h3,È ha,OV hx.1 hg];unfold AZ;rw[hg];simp only[Option.getD_some]
   by_cases hc:x.1=w
   ·rw[Ð (by rw[hc]; exact bne_self_eq_false' _),if_pos hc,Ó (by omega) (by omega),Ë h3 (by omega),hk _ ⟨i+1,by push_cast; rfl,h3,by dsimp only; push_cast; omega⟩ (by simp; omega)];simp
   ·rw[Ú (bne_iff_ne.2 hc),if_neg hc]
  ·obtain rfl:i=l.length:=by omega
   rw[Ý,List.drop_length];rfl
def acD {ρ α:Type} (x:α) (t:List α) (f:α→Option ρ):Ĥ (x::t) (0:Int) f=f x:=rfl
def NT (hS:jr L N) (l:List Int):mS ((N:Int),L) l=some (ş L l):=by
 have hl3:=hS.len;unfold mS sc ş;rw[lH hS,À,Ð (by rfl),aac _ (by omega),À]
 by_cases h:lq L l=0
 ·rw[Ð (by rw[h]; rfl),if_neg (by simp[h])]
  cases l with
  |nil=>rw[Ô]; rfl
  |cons i t =>
   have hx:=(WY h).2 i (by simp);have hg:L[i.toNat]?=some L[i.toNat]:=List.getElem?_eq_getElem hx.2;generalize L[i.toNat]=x at hg;rw[Ô,Ð (beq_eq_false_iff_ne.2 (by simp; omega)),acD,OV hx.1 hg,ags hS x.1 h,À];dsimp only;rw[hg];dsimp only[Option.getD_some];generalize AZ L x.1 0 (i::t)=w;obtain⟨e,sum,ok⟩:=w;unfold Y0;dsimp only
   cases ok with
   |false=>rw[Ú (by rfl),if_neg (by simp)]
   |true =>
    rw[Ð (by rfl)]
    by_cases h2:e=x.1
    ·rw[Ð (by rw[h2]; exact bne_self_eq_false' _)]
     by_cases h3:sum<0
     ·rw[Ð (decide_eq_false (by omega)),if_pos ⟨rfl,h2,h3⟩]
     ·rw[Ú (decide_eq_true (by omega)),if_neg (fun h=>h3 h.2.2)]
    ·rw[Ú (bne_iff_ne.2 h2),if_neg (fun h=>h2 h.2.1)]
 ·rw[Ú (bne_iff_ne.2 h),if_pos h]
end
def aas {L:List Lk} {N:Nat} (h:jr L N) (ho:kI L N=true):nP ((N:Int),L)=some ([],5):=by
 have hN:=h.n60;unfold nP Dr;rw[lH h,À,Ð (by rfl),uk h.links h.n1 (by omega),À,if_pos ho];rfl
def Vi (b:Ĕ) (n:Int×Int):Prop:=∃g∈b.2.1,g.1=n.1∧n.2∈ä b g
def Ir {b:Ĕ} (h:Ξ b) {n:Int×Int}:UF b n.1 n.2≠0↔Vi b n:=by
 unfold UF;constructor
 ·intro hne
  cases hx:jB (Ò b) n.1 n.2 with
  |none=>rw[hx] at hne; simp at hne
  |some j =>
   have hm:=List.mem_of_getElem? (kj hx).2;unfold Ò at hm;obtain⟨g,hg,hd⟩:=List.mem_flatMap.1 hm;obtain⟨d,hd,e⟩:=List.mem_map.1 hd;simp only[Prod.mk.injEq] at e;obtain⟨e1,rfl⟩:=e;exact⟨g,hg,e1,hd⟩
 ·rintro⟨g,hg,e,hd⟩;obtain⟨i,hi,rfl⟩:=List.mem_iff_getElem.1 hg;obtain⟨k,hk,e2⟩:=List.mem_iff_getElem.1 hd;rw[←e,PK h (List.getElem?_eq_getElem hi) (by rw[List.getElem?_eq_getElem hk,e2])];dsimp only;omega
def aci {b:Ĕ} (n:Int×Int) (h':Ξ (Ū b n)):Vi (Ū b n) n:=by
 have hu:=h'.looks n (by simp[Ū]);unfold Gv at hu
 split at hu
 ·omega
 obtain⟨g,hg,_⟩:=E5 h' hu;obtain⟨hm,e⟩:=ii hg;refine⟨g,hm,e,?_⟩;unfold ä;rw[Cm];unfold UQ Ū;simp only[List.mem_append,List.mem_map,List.mem_filter];exact .inr ⟨n,⟨.inr (by simp),by simp[e]⟩,rfl⟩
def abh {b:Ĕ} {n:Int×Int} (e:(rQ b n).2=0):(rQ b n=(b,0)∧UF b n.1 n.2≠0)∨(rQ b n=(Ū b n,0)∧Ξ (Ū b n)∧UF b n.1 n.2=0):=by
 unfold rQ at e ⊢
 split
 ·rename_i h; exact .inl ⟨rfl,h⟩
 ·rename_i h1;rw[if_neg h1] at e
  split
  ·rename_i h2; rw[if_pos h2] at e; exact absurd e h2
  ·rename_i h2; exact .inr ⟨rfl,(ś _).1 (by simpa using h2),by simpa using h1⟩
def acj {b:Ĕ} {n:Int×Int} {f:Int→Int→Int} {z:Int}:Hist (Ū b n) f z↔Hist b f z :=
 ⟨fun h=>⟨fun g hg=>by have:=h.gauge g hg; exact⟨this.hi,this.lo,this.down,this.loss⟩,h.cmp⟩,fun h=>⟨fun g hg=>by have:=h.gauge g hg; exact⟨this.hi,this.lo,this.down,this.loss⟩,h.cmp⟩⟩
inductive Wk (L:List Lk) (to:Int):Nat→Int→Int→Prop
 |nil:Wk L to 0 to 0
 |step {k:Nat} {v w m d:Int}:(v,w,m)∈L→Wk L to k w d→Wk L to (k+1) v (m+d)
section
variable {L:List Lk} {N:Nat}
def Wk.snoc {u v m:Int} (hl:(u,v,m)∈L):∀{k:Nat} {s d:Int},Wk L u k s d→Wk L v (k+1) s (d+m):=by
 intro k s d h
 induction h with
 |nil =>
  have:=Wk.step hl (Wk.nil (L:=L) (to:=v))
  have e:m+0=0+m:=by omega
  rw[e] at this;exact this
 | @step k a w m' d h1 h2 ih =>
  have:=Wk.step h1 ih
  have e:m'+(d+m)=m'+d+m:=by omega
  rw[e] at this;exact this
def Wk.bd (hS:jr L N) {t:Int} {k:Nat} {s d:Int} (h:Wk L t k s d) : -(k*4503599627370496)≤d∧d≤k*4503599627370496:=by
 induction h with
 |nil=>omega
 | @step k v w m d h1 h2 ih =>
  have:=hS.most _ h1;dsimp only at this;push_cast;omega
def W0 {v:Int} (h0:0≤v) (h1:v<N):gv (List.replicate N Š) v=Š:=by
 unfold gv;rw[List.getElem?_replicate,if_pos (by omega)];rfl
def aeR {B:Int} (hB:B≤1100000000000000000) {x:List Int} (hx:Lim B x) (v:Int):gv x v≤Š:=by
 by_cases h:gv x v=Š
 ·omega
 ·have:=hx v h; unfold Š; omega
def Eg (hS:jr L N) {B:Int} (hB:0≤B) (hB2:B≤1000000000000000000) {x:List Int} (hx:Lim B x) {v:Int} (h0:0≤v) (h1:v<N) :
 ∀(M:List Lk),(∀l∈M,l∈L)→∀y:List Int,y.length=N→Lim (B+4503599627370496) y →
  gv (M.foldl (i9 x) y) v≤gv y v∧(∀w m,(v,w,m)∈M→gv x w≠Š→gv (M.foldl (i9 x) y) v≤m+gv x w) ∧
  (gv (M.foldl (i9 x) y) v=gv y v∨∃w m,(v,w,m)∈M∧gv x w≠Š∧gv (M.foldl (i9 x) y) v=m+gv x w)
 |[],_,y,_,_=>⟨dK _,fun _ _ h=>by simp at h,.inl rfl⟩
 |l::M,hM,y,hl,hy=>by
  rw[f9];have hlm:=hM l (by simp);obtain⟨i1,i2,i3⟩:=Eg hS hB hB2 hx h0 h1 M (fun m hm=>hM m (by simp[hm])) (i9 x y l) (by rw[Gc,hl]) (Yy hS hB hB2 hx hy hl hlm);have hr:=hS.inr l hlm;have hyF:=aeR (by omega) hy
  -- the element behind one link
  have key:gv (i9 x y l) v≤gv y v∧(l.1=v→gv x l.2.1≠Š→gv (i9 x y l) v≤l.2.2+gv x l.2.1)∧(gv (i9 x y l) v=gv y v∨(l.1=v∧gv x l.2.1≠Š∧gv (i9 x y l) v=l.2.2+gv x l.2.1)):=by
   unfold i9
   by_cases hf:gv x l.2.1=Š
   ·rw[if_pos hf];exact⟨dK _,fun _ h=>absurd hf h,.inl rfl⟩
   ·rw[if_neg hf,rC hr.1.1 h0 (by omega)]
    by_cases hv:v=l.1
    ·rw[if_pos hv,hv];refine⟨by omega,fun _ _=>by omega,?_⟩
     by_cases hc:gv y l.1≤l.2.2+gv x l.2.1
     ·exact .inl (by omega)
     ·exact .inr ⟨rfl,hf,by omega⟩
    ·rw[if_neg hv];exact⟨dK _,fun h=>absurd h.symm hv,.inl rfl⟩
  obtain⟨k1,k2,k3⟩:=key;refine⟨by omega,fun w m hm hw=>?_,?_⟩
  ·rcases cO.1 hm with h|h
   ·subst h;have:=k2 rfl hw;dsimp only at this;omega
   ·exact i2 w m h hw
  ·rcases i3 with h|⟨w,m,h,hw,e⟩
   ·rcases k3 with h'|⟨h',hw,e⟩
    ·exact .inl (h.trans h')
    ·refine .inr ⟨l.2.1,l.2.2,?_,hw,h.trans e⟩;rw[←h']; simp
   ·exact .inr ⟨w,m,by simp[h],hw,e⟩
def Rw (hS:jr L N) {to:Int} (ht:0≤to∧to<N):∀k:Nat,k≤200→∀v:Int,0≤v→v<N →
 (gv (exL L N to k) v≠Š→Wk L to k v (gv (exL L N to k) v))∧∀d,Wk L to k v d→gv (exL L N to k) v≤d∧gv (exL L N to k) v≠Š
 |0,_,v,h0,h1=>by
  unfold exL;rw[rC ht.1 h0 (by simp; omega)]
  by_cases hv:v=to
  ·subst hv;rw[if_pos rfl];refine⟨fun _=>.nil,fun d hd=>?_⟩;cases hd;exact⟨dK _,by decide⟩
  ·rw[if_neg hv,W0 h0 h1];refine⟨fun h=>absurd rfl h,fun d hd=>?_⟩;cases hd;exact absurd rfl hv
 |k+1,hk,v,h0,h1=>by
  have hlim:=BW hS ht k (by omega);obtain⟨i1,i2,i3⟩:=Eg hS (B:=k*4503599627370496) (by omega) (by omega) hlim h0 h1 L (fun _ h=>h) (List.replicate N Š) (by simp) (K4 (by omega));have ih:=Rw hS ht k (by omega);unfold exL O6;refine⟨fun hf=>?_,fun d hd=>?_⟩
  ·rcases i3 with h|⟨w,m,h,hw,e⟩
   ·rw[W0 h0 h1] at h; exact absurd h hf
   ·rw[e];have hwr:=(hS.inr _ h).2;exact .step h ((ih w hwr.1 hwr.2).1 hw)
  ·have hb:=Wk.bd hS hd
   cases hd with
   | @step k' v' w m d h h2 =>
    have hwr:=(hS.inr _ h).2;obtain⟨j1,j2⟩:=(ih w hwr.1 hwr.2).2 d h2;have:=i2 w m h j2;refine⟨by omega,?_⟩
    have hq:(m+d)≤1000000000000000000:=by push_cast at hb; omega
    intro hF;rw[hF] at this;unfold Š at this;omega
def afc (hS:jr L N) {to:Int} (ht:0≤to∧to<N) {k:Nat} (hk:k+1≤200) {u:Int} (hu:0≤u∧u<N) (hf:gv (exL L N to (k+1)) u≠Š) :
 ∃w m,(u,w,m)∈L∧gv (exL L N to k) w≠Š∧gv (exL L N to (k+1)) u=m+gv (exL L N to k) w:=by
 have hlim:=BW hS ht k (by omega);obtain⟨_,_,i3⟩:=Eg hS (B:=k*4503599627370496) (by omega) (by omega) hlim hu.1 hu.2 L (fun _ h=>h) (List.replicate N Š) (by simp) (K4 (by omega));have e:exL L N to (k+1)=L.foldl (i9 (exL L N to k)) (List.replicate N Š):=rfl;rw[e] at hf ⊢;rcases i3 with h|h
 ·rw[W0 hu.1 hu.2] at h; exact absurd h hf
 ·exact h
def Lq (hS:jr L N) {to:Int} (ht:0≤to∧to<N) (good:Int→Bool):∀(k:Nat),k≤200→∀(u sum:Int) (out:List Int),0≤u→u<N→gv (exL L N to k) u≠Š→good (sum+gv (exL L N to k) u)=true →
 ∃q,oe L (exL L N to) good k u sum out=out++q∧q.length=k∧(∀i∈q,AX L i=false)∧∃s,AZ L u sum q=(to,s,true)∧good s=true
 |0,_,u,sum,out,h0,h1,hf,hg=>by
  have hu:u=to:=by
   have hw:=((Rw hS ht 0 (by omega) u h0 h1).1 hf);generalize gv (exL L N to 0) u=y at hw;cases hw;rfl
  subst hu
  have e:gv (exL L N u 0) u=0:=by
   unfold exL;rw[rC ht.1 h0 (by simp; omega),if_pos rfl]
  rw[e,gG] at hg;exact⟨[],by simp[oe],rfl,by simp,sum,rfl,hg⟩
 |k+1,hk,u,sum,out,h0,h1,hf,hg=>by
  obtain⟨w,m,hl,hw,e⟩:=afc hS ht hk ⟨h0,h1⟩ hf;unfold oe PM
  cases hn:L.findIdx? (fun l=>l.1==u&&(decide (gv (exL L N to k) l.2.1≠Š)&&good (sum+l.2.2+gv (exL L N to k) l.2.1))) with
  |none =>
   have:=dE.1 hn (u,w,m) hl;rw[e,←Int.add_assoc] at hg;simp[hw,hg] at this
  |some i =>
   obtain⟨hi,hp,_⟩:=List.findIdx?_eq_some_iff_getElem.1 hn;have hg2:L[i]?=some L[i]:=List.getElem?_eq_getElem hi;have hm:=List.mem_of_getElem? hg2;generalize L[i]=x at hp hg2 hm;simp only[Bool.and_eq_true,beq_iff_eq,decide_eq_true_eq] at hp;obtain⟨p1,p2,p3⟩:=hp;have hr:=(hS.inr x hm).2;obtain⟨q,q1,q2,q3,s,q4,q5⟩:=Lq hS ht good k (by omega) x.2.1 (sum+x.2.2) (out++[(i:Int)]) hr.1 hr.2 p2 p3;dsimp only;rw[hg2];simp only[Option.getD_some];refine⟨(i:Int)::q,by rw[q1]; simp,by simp[q2],fun j hj=>?_,s,?_,q5⟩
   ·rcases cO.1 hj with rfl|hj
    ·simp[AX]; omega
    ·exact q3 j hj
   ·unfold AZ;rw[Int.toNat_natCast,hg2];simp only[Option.getD_some];rw[if_pos p1];exact q4
def aeT {P:Int→Prop} {B:Int} (h:∃d,P d) (hB:∀d,P d→B≤d):∃d,P d∧∀e,P e→d≤e:=by
 obtain⟨d0,h0⟩:=h
 have:∀(n:Nat) (d:Int),P d→(d-B).toNat≤n→∃d,P d∧∀e,P e→d≤e:=by
  intro n
  induction n with
  |zero=>intro d hd hn; exact⟨d,hd,fun e he=>by have:=hB e he; have:=hB d hd; omega⟩
  |succ n ih =>
   intro d hd hn
   by_cases hx:∃e,P e∧e<d
   ·obtain⟨e,he,hl⟩:=hx;exact ih e he (by have:=hB e he; omega)
   ·exact⟨d,hd,fun e he=>by
     rcases gq e d with q|q
     ·exact absurd ⟨e,he,q⟩ hx
     ·exact q⟩
 exact this _ d0 h0 (cH _)
def Wl.cutK {S:Int→Prop} {vs:List Int} {u d:Int} (h:Wl L S vs u d):∀x∈u::vs,∃vs1 d1 k d2,Wl L S vs1 x d1∧(x::vs1) <:+ (u::vs)∧Wk L u k x d2∧d=d1+d2∧k≤vs.length:=by
 induction h with
 | @nil v hv =>
  intro x hx;simp at hx;subst hx;exact⟨[],0,0,0,.nil hv,List.suffix_refl _,.nil,by omega,by simp⟩
 | @step vs u v m d hw hl ih =>
  intro x hx;rcases cO.1 hx with rfl|hx
  ·exact⟨u::vs,d+m,0,0,.step hw hl,List.suffix_refl _,.nil,by omega,by simp⟩
  ·obtain⟨vs1,d1,k,d2,g1,g2,g3,g4,g5⟩:=ih x hx;exact⟨vs1,d1,k+1,d2+m,g1,g2.trans (List.suffix_cons _ _),g3.snoc hl,by omega,by simp; omega⟩
def ZQ (hS:jr L N) (hno:kI L N=false):∃(k:Nat) (v d:Int),1≤k∧k≤N∧(0≤v∧v<N)∧Wk L v k v d∧d<0:=by
 have hn:=hS.n60;apply Classical.byContradiction;intro hc
 have hcl:∀{k:Nat} {v d:Int},1≤k→k≤N→(0≤v∧v<N)→Wk L v k v d→0≤d:=fun {k v d} h1 h2 h3 h4=>by
  rcases gq d 0 with q|q
  ·exact absurd ⟨k,v,d,h1,h2,h3,h4,q⟩ hc
  ·exact q
 have hinr:∀l∈L,-4503599627370496≤l.2.2:=fun l hl=>(hS.most l hl).1
 let P:Int→Int→Prop:=fun v d=>∃vs,Wl L (fun u=>0≤u∧u<N) vs v d∧(v::vs).Nodup
 have hP:∀v:Int,0≤v∧v<N→∃d,P v d∧∀e,P v e→d≤e:=fun v hv=>aeT (B:=-(60*4503599627370496)) ⟨0,[],.nil hv,by simp⟩ (by
  rintro d ⟨vs,h1,h2⟩;have q1:=h1.lowM hinr;have q2:=h1.short hS.inr (fun w hw=>hw) h2
  have:((vs.length:Nat):Int)*4503599627370496≤60*4503599627370496:=by omega
  omega)
 have ho:kI L N=true:=by
  refine(kH hS.links (by omega)).2 ⟨fun v=>if hv:0≤v∧v<(N:Int) then Classical.choose (hP v hv) else 0,fun u v m hl=>?_⟩;have hr:=hS.inr _ hl;dsimp only at hr;obtain⟨⟨vs,hw,hnd⟩,hu2⟩:=Classical.choose_spec (hP u hr.1);obtain⟨_,hv2⟩:=Classical.choose_spec (hP v hr.2);have e1:(if hv:0≤u∧u<(N:Int) then Classical.choose (hP u hv) else 0)=Classical.choose (hP u hr.1):=dif_pos hr.1;have e2:(if hv:0≤v∧v<(N:Int) then Classical.choose (hP v hv) else 0)=Classical.choose (hP v hr.2):=dif_pos hr.2;dsimp only;rw[e1,e2];generalize Classical.choose (hP u hr.1)=a at *;generalize Classical.choose (hP v hr.2)=b at *
  by_cases hv:v∈u::vs
  ·obtain⟨vs1,d1,k,d2,g1,g2,g3,g4,g5⟩:=hw.cutK v hv;have hlen:=hw.short hS.inr (fun w hw=>hw) hnd;have:=hcl (by omega) (by omega) hr.2 (g3.snoc hl);have:=hv2 d1 ⟨vs1,g1,hnd.sublist g2.sublist⟩;omega
  ·have:=hv2 (a+m) ⟨u::vs,hw.step hl,eW.2 ⟨hv,hnd⟩⟩;omega
 rw[hno] at ho;cases ho
def lF (L:List Lk) (N:Nat) (k:Nat) (l:Lk):Bool:=decide (gv (exL L N l.1 k) l.2.1≠Š)&&decide (l.2.2+gv (exL L N l.1 k) l.2.1<0)
def aaG (hS:jr L N) (hno:kI L N=false):∃k,k<N∧∃l∈L,lF L N k l=true:=by
 have hn:=hS.n60;obtain⟨k,v,d,h1,h2,h3,h4,h5⟩:=ZQ hS hno
 cases h4 with
 |nil=>omega
 | @step k v w m d hl hk =>
  have hr:=hS.inr _ hl;obtain⟨e1,e2⟩:=(Rw hS h3 k (by omega) w hr.2.1 hr.2.2).2 d hk;refine⟨k,by omega,(v,w,m),hl,?_⟩;simp only[lF,cI,decide_eq_true_eq];exact⟨e2,by omega⟩
def UW (hS:jr L N) {k:Nat} (hk:k<N) {l:Lk} (hl:l∈L) (hb:lF L N k l=true) :
 ∃q,oe L (exL L N l.1) (fun n=>ilt n 0) (k+1) l.1 0 []=q∧q.length=k+1∧(∀i∈q,AX L i=false)∧ş L q=0∧∃u s,AZ L u 0 q=(u,s,true)∧s<0:=by
 have hn:=hS.n60;have hr:=hS.inr _ hl;simp only[lF,cI,decide_eq_true_eq] at hb;have hlim:=BW hS hr.1 k (by omega);obtain⟨_,i2,_⟩:=Eg hS (B:=k*4503599627370496) (by omega) (by omega) hlim hr.1.1 hr.1.2 L (fun _ h=>h) (List.replicate N Š) (by simp) (K4 (by omega));have h2:gv (exL L N l.1 (k+1)) l.1≤l.2.2+gv (exL L N l.1 k) l.2.1:=i2 l.2.1 l.2.2 hl hb.1
 have hne:gv (exL L N l.1 (k+1)) l.1≠Š:=fun h=>by rw[h] at h2; unfold Š at h2; omega
 obtain⟨q,q1,q2,q3,s,q4,q5⟩:=Lq hS hr.1 (fun n=>ilt n 0) (k+1) (by omega) l.1 0 [] hr.1.1 hr.1.2 hne (by rw[Int.zero_add]; exact decide_eq_true (by omega));rw[dS] at q1;have hs:s<0:=of_decide_eq_true q5;refine⟨q,q1,q2,q3,?_,l.1,s,q4,hs⟩
 have hany:q.any (AX L)=false:=by
  rw[dN]
  exact fun i hi=>by rw[q3 i hi]; simp
 cases q with
 |nil=>simp at q2
 |cons i t =>
  have hi:=q3 i (by simp);simp only[AX,gz,decide_eq_false_iff_not] at hi;have hg:L[i.toNat]?=some L[i.toNat]:=cG (by omega)
  have hfst:(L[i.toNat]?.getD (0,0,0)).1=l.1:=by
   unfold AZ at q4
   by_cases h:(L[i.toNat]?.getD (0,0,0)).1=l.1
   ·exact h
   ·rw[if_neg h] at q4; simp at q4
  have hix:lq L (i::t)=0:=by
   unfold lq;rw[if_neg (by omega),hany];rfl
  unfold ş;rw[hix,if_neg (by simp)];dsimp only;rw[hfst,q4];unfold Y0;dsimp only;rw[if_pos ⟨rfl,rfl,hs⟩]
end
def XI {L:List Lk} {p:Int→Int} (hp:Pot L p):∀(l:List Int) (u s:Int),(∀i∈l,0≤i∧i.toNat<L.length)→(AZ L u s l).2.2=true→p (AZ L u s l).1-p u≤(AZ L u s l).2.1-s
 |[],u,s,_,_=>by simp[AZ]
 |i::t,u,s,hi,hw=>by
  have hx:=hi i (by simp);have hg:L[i.toNat]?=some L[i.toNat]:=List.getElem?_eq_getElem hx.2;have hm:=List.mem_of_getElem? hg;generalize L[i.toNat]=x at hg hm;unfold AZ at hw ⊢;rw[hg] at hw ⊢;simp only[Option.getD_some] at hw ⊢
  split at hw
  ·rename_i hc;rw[if_pos hc];have h1:=hp x.1 x.2.1 x.2.2 hm;have h2:=XI hp t x.2.1 (s+x.2.2) (fun j hj=>hi j (by simp[hj])) hw;rw[hc] at h1;omega
  ·cases hw
section
variable {L:List Lk} {N:Nat}
def afl {ρ:Type} (c0:List (List Int)) (c6:List Lk):@xM ρ c0 c6=folM (fun n=>ilt n 0) c0 c6:=rfl
def wD (L:List Lk) (N:Nat):List (List (List Int)):=(List.range N).map fun(n:Nat)=>lW L N n N
def Zw {L:List Lk} {N n:Nat} (h:n<N):(wD L N)[n]?=some (lW L N n N):=by
 unfold wD;rw[List.getElem?_map,List.getElem?_range h];rfl
def Vx {ρ:Type} (hS:jr L N) (K:List (List (List Int))→Option ρ) :
 Ê (fun(v56:Int×List (List (List Int))) kk59=>nw (Ù (List.replicate N ([]:(Val (.slice (.slice tI)))))) (N:Int) L v56.1 v56.2 (fun u57 u58=>kk59 (u57,u58)) K) ((0:Int),(List.replicate N ([]:(Val (.slice (.slice tI))))))=K (wD L N):=by
 have hN:=hS.n60;refine ģ (List.replicate N ()) (fun i=>((List.range i).map fun(n:Nat)=>lW L N n N)++List.replicate (N-i) ([]:List (List Int))) _ (by simp) (fun i a hi ha kn=>?_) (fun kn=>?_)
 ·try dsimp only
  unfold nw;rw[List.length_replicate] at hi;rw[Ô,List.length_replicate,Ú (decide_eq_true (by omega)),afa hS ⟨by omega,by omega⟩ (by omega),À]
  have hlen:(((List.range i).map fun(n:Nat)=>lW L N n N)++List.replicate (N-i) ([]:List (List Int))).length=N:=by simp; omega
  rw[show í (((List.range i).map fun(n:Nat)=>lW L N n N)++List.replicate (N-i) ([]:List (List Int)))=(N:Int) by unfold í; rw[hlen],Α (by omega) (by omega),Int.toNat_natCast]
  have hget:(((List.range i).map fun(n:Nat)=>lW L N n N)++List.replicate (N-i) ([]:List (List Int)))[i]?=some []:=by
   rw[fO (by simp),gL,if_pos (by simp; omega)]
  rw[iN hget,Ó (by omega) (by omega)];congr 2;rw[gk _ _ (by simp),fN,fg]
  have e:N-i=(N-(i+1))+1:=by omega
  rw[e,fX];simp
 ·try dsimp only
  unfold nw;rw[Ô,List.length_replicate,List.length_replicate,Ð (decide_eq_false (by omega))];unfold wD;simp
def Sx {ρ:Type} (hS:jr L N) {k:Nat} (hk:k<N) (k0:Unit→Option ρ) (k1:Int×List Int→Option ρ) (k2:Unit→Option ρ) :
 Ê (fun(v48:Int) kk50=>nu ((k:Int)+1) L (Ù L) (N:Int) L (wD L N) v48 (fun u49=>kk50 u49) k0 k1 k2) (0:Int) =
  match L.find? (lF L N k) with|some l=>k1 (0,oe L (exL L N l.1) (fun n=>ilt n 0) (k+1) l.1 0 [])|none=>k2 ():=by
 have hN:=hS.n60;have hl3:=hS.len;rw[Rr];refine(i5 L (lF L N k) (fun j=>match L[j.toNat]? with|some l=>k1 (0,oe L (exL L N l.1) (fun n=>ilt n 0) (k+1) l.1 0 [])|none=>k2 ()) (k2 ()) (fun i l hi hl kn=>?_) (fun kn=>?_)).trans ?_
 ·try dsimp only
  unfold nu;have hm:=List.mem_of_getElem? hl;have hr:=hS.inr l hm;have hmo:=hS.most l hm
  have hto:((l.1.toNat:Nat):Int)=l.1:=by omega
  have hg:(wD L N)[l.1.toNat]?=some (lW L N l.1 N):=by rw[Zw (by omega),hto]
  have hol:í (wD L N)=(N:Int):=by simp[í,wD]
  have hlim:=BW hS hr.1 k (by omega) l.2.1;rw[Ï hi,È hl,hol,Α hr.1.1 hr.1.2,iN hg,show((k:Int)+1-1)=(k:Int) by omega,Ó (by omega) (by omega),È (Gb (by omega)),vt hr.2.1 (by rw[W8]; omega)];unfold lF
  by_cases h1:gv (exL L N l.1 k) l.2.1=Š
  ·rw[Ú (beq_iff_eq.2 h1),Ë hi (by omega),if_neg (by simp[h1])]
  ·have hb:=hlim h1;rw[Ð (beq_eq_false_iff_ne.2 h1),Ó (by omega) (by omega)]
   by_cases h2:l.2.2+gv (exL L N l.1 k) l.2.1<0
   ·rw[Ð (decide_eq_false (by omega)),Ð (decide_eq_false (by omega)),Α hr.1.1 hr.1.2,iN hg,if_pos (by simp[h1,h2]),afl,cW,hl];have hex:∀j,j<k+1→(lW L N l.1 N)[j]?=some (exL L N l.1 j):=fun j hj=>Gb (by omega)
    have hx:∀j,j<k+1→Lim 900000000000000000 (exL L N l.1 j)∧(exL L N l.1 j).length=N:=fun j hj=>⟨fun w hw=>by
     have:=BW hS hr.1 j (by omega) w hw; omega,W8 _ _⟩
    have:=ahc hS (fun n=>ilt n 0) (rest:=lW L N l.1 N) (R:=exL L N l.1) (k0:=k+1) (by omega) hex hx l.1 (fun z=>k1 (0,z));rw[show(((k+1:Nat):Int))=(k:Int)+1 by push_cast; rfl] at this;exact this
   ·rw[Ú (decide_eq_true (by omega)),Ë hi (by omega),if_neg (by simp[h1,h2])]
 ·try dsimp only
  unfold nu;rw[Ý]
 ·cases h:L.findIdx? (lF L N k) with
  |none=>rfl
  |some j=>dsimp only; rw[Int.toNat_natCast]
def ad3 (hS:jr L N) (hno:kI L N=false):∃(K:Nat) (l:Lk),K<N∧(∀k,k<K→∀x∈L,lF L N k x=false)∧L.find? (lF L N K)=some l∧nP ((N:Int),L)=some (oe L (exL L N l.1) (fun n=>ilt n 0) (K+1) l.1 0 [],0):=by
 have hN:=hS.n60;obtain⟨K0,hK0,l0,hl0,hb0⟩:=aaG hS hno
 -- the first number of links
 have hex:∃K,K≤K0∧(∃l∈L,lF L N K l=true)∧∀k,k<K→∀x∈L,lF L N k x=false:=by
  have:∀n:Nat,(∀k,k<n→∀x∈L,lF L N k x=false)∨∃K,K<n∧(∃l∈L,lF L N K l=true)∧∀k,k<K→∀x∈L,lF L N k x=false:=by
   intro n
   induction n with
   |zero=>exact .inl fun k hk=>by omega
   |succ n ih =>
    rcases ih with h|⟨K,h1,h2⟩
    ·by_cases hx:∃l∈L,lF L N n l=true
     ·exact .inr ⟨n,by omega,hx,h⟩
     ·refine .inl fun k hk x hxm=>?_;rcases f8 (Nat.le_of_lt_succ hk) with h1|rfl
      ·exact h k h1 x hxm
      ·exact ej.2 fun e=>hx ⟨x,hxm,e⟩
    ·exact .inr ⟨K,by omega,h2⟩
  rcases this (K0+1) with h|⟨K,h1,h2,h3⟩
  ·have:=h K0 (by omega) l0 hl0;rw[hb0] at this; cases this
  ·exact⟨K,by omega,h2,h3⟩
 obtain⟨K,hK,⟨l1,hl1,hb1⟩,hfirst⟩:=hex
 obtain⟨l,hl⟩:∃l,L.find? (lF L N K)=some l:=by
  cases h:L.find? (lF L N K) with
  |none=>have:=eo.1 h l1 hl1; exact absurd hb1 this
  |some l=>exact⟨l,rfl⟩
 refine⟨K,l,by omega,hfirst,hl,?_⟩;unfold nP Dr;rw[lH hS,À,Ð (by rfl),uk hS.links hS.n1 (by omega),À,if_neg (by simp[hno]),Ð (by rfl),okN (by omega),Int.toNat_natCast];refine(Vx hS _).trans ?_;refine ė (fun v=>∃k:Nat,k≤K∧v=(k:Int)+1) (fun v=>(K+2)-v.toNat) ?_ ⟨0,by omega,rfl⟩;rintro v ⟨k,hk,rfl⟩;rcases Nat.lt_or_eq_of_le hk with h|rfl
 ·refine .inr ⟨((k+1:Nat):Int)+1,⟨k+1,h,rfl⟩,by omega,fun kn=>?_⟩;unfold rc;refine(Sx hS (by omega) _ _ _).trans ?_
  have hnone:L.find? (lF L N k)=none:=eo.2 fun x hx=>by rw[hfirst k h x hx]; simp
  rw[hnone];dsimp only;rw[Ó (by omega) (by omega)];congr 1
 ·refine .inl fun kn=>?_;unfold rc;refine(Sx hS (by omega) _ _ _).trans ?_;rw[hl]
end
def abn (L:List Lk) (N:Nat):List (Int×Int):=(List.range N).map fun(n:Nat)=>(-(dst L N n 0),dst L N 0 n)
section
variable {L:List Lk} {N:Nat}
def Zz {n:Nat} (h:n<N):(abn L N)[n]?=some (-(dst L N n 0),dst L N 0 n):=by
 unfold abn;rw[List.getElem?_map,List.getElem?_range h];rfl
def afK (hS:jr L N) (ht:Xx L N) (ho:kI L N=true):tT ((N:Int),L)=some (abn L N,0):=by
 have hN:=hS.n60;have hN1:=hS.n1;unfold tT Kg;rw[afG hS (fun n hn=>by simp at hn) (by simp),À,if_pos ho,Ð (by rfl),U9 hS.links hS.n1 (by omega) ho ⟨by omega,by omega⟩,À,okN (by omega),Int.toNat_natCast];have hlen0:(yr L N 0).length=N:=LY 0;refine ģ (List.replicate N ()) (fun i=>((List.range i).map fun(n:Nat)=>dst L N n 0)++List.replicate (N-i) (0:Int)) _ (by simp) (fun i a hi ha kn=>?_) (fun kn=>?_)
 ·try dsimp only
  unfold qZ;rw[List.length_replicate] at hi;rw[Ô,List.length_replicate,Ú (decide_eq_true (by omega)),U9 hS.links hS.n1 (by omega) ho ⟨by omega,by omega⟩,À,vt (by omega) (by rw[LY]; simp; omega)]
  have hlen:(((List.range i).map fun(n:Nat)=>dst L N n 0)++List.replicate (N-i) (0:Int)).length=N:=by simp; omega
  rw[show í (((List.range i).map fun(n:Nat)=>dst L N n 0)++List.replicate (N-i) (0:Int))=(N:Int) by unfold í; rw[hlen],Α (by omega) (by omega),Int.toNat_natCast]
  have hget:(((List.range i).map fun(n:Nat)=>dst L N n 0)++List.replicate (N-i) (0:Int))[i]?=some 0:=by
   rw[fO (by simp),gL,if_pos (by simp; omega)]
  rw[iN hget,Ó (by omega) (by omega)];congr 2;rw[gk _ _ (by simp),fN,fg]
  have e:N-i=(N-(i+1))+1:=by omega
  rw[e,fX];simp[dst]
 ·try dsimp only
  unfold qZ;rw[Ô,List.length_replicate,List.length_replicate,Ð (decide_eq_false (by omega))]
  have e0:((List.range N).map fun(n:Nat)=>dst L N n 0)++List.replicate (N-N) (0:Int)=(List.range N).map fun(n:Nat)=>dst L N n 0:=by simp
  rw[e0];refine ģ (List.replicate N ()) (fun i=>(List.range i).map fun(n:Nat)=>(-(dst L N n 0),dst L N 0 n)) _ (by simp) (fun i a hi ha kn=>?_) (fun kn=>?_)
  ·try dsimp only
   unfold qY;rw[List.length_replicate] at hi
   have hget:((List.range N).map fun(n:Nat)=>dst L N n 0)[i]?=some (dst L N i 0):=by
    rw[eA,fY hi]; rfl
   have hb:=dst_bd hS ht ho (s:=(i:Int)) (t:=0) ⟨by omega,by omega⟩ ⟨by omega,by omega⟩;rw[Ô,hlen0,Ú (decide_eq_true (by omega)),show í ((List.range N).map fun(n:Nat)=>dst L N n 0)=(N:Int) by simp[í],Α (by omega) (by omega),cW,iN hget,Ó (by omega) (by omega),vt (by omega) (by rw[hlen0]; simp; omega),ý (Õ (by simp only[dA,fP,dJ]; omega)),Ó (by omega) (by omega),Int.zero_sub];congr 2;rw[fN,fg];rfl
  ·try dsimp only
   unfold qY;rw[Ô,hlen0,List.length_replicate,Ð (decide_eq_false (by omega))];rfl
end
abbrev nT (m:ņ) (w:Way):Nat:=(Ò (trP m w)).length+1
abbrev sT (m:ņ) (w:Way):List Lk:=i6 (trP m w)
def AR (L:List Lk) (N:Nat):List Int:=((nP ((N:Int),L)).getD ([],0)).1
def UX {L:List Lk} {N:Nat} (hS:jr L N) (hno:kI L N=false):nP ((N:Int),L)=some (AR L N,0)∧ş L (AR L N)=0∧(AR L N).length≤N:=by
 obtain⟨K,l,h1,_,h3,h4⟩:=ad3 hS hno;obtain⟨q,q1,q2,_,q4,_⟩:=UW hS h1 (fq h3) (f5 h3)
 have e:AR L N=q:=by unfold AR; rw[h4,q1]; rfl
 rw[e];exact⟨by rw[h4,q1],q4,by omega⟩
section
variable {m:ņ} {w:Way} {ρ:Type}
def XR (n:Nat):(((n:Int)+1,i6 (trP m w)):Sys)=(((n+1:Nat):Int),i6 (trP m w)):=by simp
def Zm (m:ņ):List (List Int)×Int:=if ę m≠0 then([],ę m) else if ky m then([],5) else((Œ m.2).map fun w=>AR (sT m w) (nT m w),0)
def afN (hs:In m.1) (hn:m.2.length≤1000):Em m=some (Zm m):=by
 unfold Em JZ Zm;rw[j7 hs hn,À]
 by_cases hc:ę m=0
 ·have h:=(ĩ m).1 hc;have hl2:=ug h;have hm:((((m.1.1.1,m.1.1.2),m.1.2.1,m.1.2.2.1,m.1.2.2.2.1,m.1.2.2.2.2.1,m.1.2.2.2.2.2),m.2):ņ)=m:=rfl;rw[Ð (by simp[ine,hc]),if_neg (by simp[hc]),IM h,À];refine K3 (Œ m.2) (fun i=>((Œ m.2).take i).map fun w=>AR (sT m w) (nT m w)) _ (fun i=>∀w∈(Œ m.2).take i,lL m w=false) rfl (fun w hw=>by simp at hw) (fun i x hi hx hp kn=>?_) (fun hp kn=>?_)
  ·try dsimp only
   unfold qT;have hg:=rP h (rO hx);rw[Ï hi,È hx,hm,qp h (rO hx),À,L8 h (rO hx),À];dsimp only;rw[XR]
   cases he:lL m x with
   |true =>
    refine .inl ?_;rw[aas hg.sys he,À];have:ky m=true:=dj.2 ⟨x,cP hx,he⟩;rw[this]; rfl
   |false =>
    refine .inr ⟨fun w hw=>?_,?_⟩
    ·rw[take_succ hx] at hw;rcases cN.1 hw with hw|hw
     ·exact hp w hw
     ·rw[cQ.1 hw]; exact he
    ·rw[(UX hg.sys he).1,À,Ð (by rfl),ý (Õ (by simp; omega)),Ë hi (by omega),take_succ hx,fg]; rfl
  ·rw[fI] at hp
   try dsimp only
   unfold qT
   have:ky m=false:=dN.2 fun w hw=>by rw[show lL m w=false from hp w hw]; simp
   rw[Ý,fI,this]; rfl
 ·rw[Ú (by simp[ine,hc]),if_pos hc]
def vF (m:ņ) (chains:List (List Int)):Bool:=(List.range (Œ m.2).length).all fun i=>match (Œ m.2)[i]?,chains[i]? with|some w,some c=>decide (ş (sT m w) c=0)|_,_=>false
def mH (m:ņ) (chains:List (List Int)):Int:=if ę m≠0 then ę m else if chains.length≠(Œ m.2).length then 8 else if vF m chains then 0 else 8
def EH (hs:In m.1) (hn:m.2.length≤1000) (chains:List (List Int)):jL m chains=some (mH m chains):=by
 unfold jL rW mH;rw[j7 hs hn,À]
 by_cases hc:ę m=0
 ·have h:=(ĩ m).1 hc;have hl2:=ug h;have hm:((((m.1.1.1,m.1.1.2),m.1.2.1,m.1.2.2.1,m.1.2.2.2.1,m.1.2.2.2.2.1,m.1.2.2.2.2.2),m.2):ņ)=m:=rfl;rw[Ð (by simp[ine,hc]),if_neg (by simp[hc]),IM h,À]
  by_cases hl:chains.length=(Œ m.2).length
  ·rw[Ð (by simp[ine,Ô]; omega),if_neg (by simp[hl])];refine eN (Yw (Œ m.2).length (fun i=>match (Œ m.2)[i]?,chains[i]? with|some w,some c=>decide (ş (sT m w) c=0)|_,_=>false) (some 8) (some 0) (fun i hi kn=>?_) (fun kn=>?_)) ?_
   ·have hx:(Œ m.2)[i]?=some (Œ m.2)[i]:=cG hi;have hx2:chains[i]?=some chains[i]:=cG (by omega)
    try dsimp only
    unfold jl;rw[Ï hi,È hx,hm,qp h (rO hx),À,L8 h (rO hx),À,È hx2];dsimp only;rw[XR,NT (rP h (rO hx)).sys,À,hx,hx2,Ċ,Ë hi (by omega)];dsimp only
    by_cases he:ş (sT m (Œ m.2)[i]) chains[i]=0
    ·rw[if_neg (by simp[ine,he]),if_pos (by simpa using he)]
    ·rw[if_pos (by simp[ine,he]),if_neg (by simpa using he)]
   ·try dsimp only
    unfold jl;rw[Ý]
   ·unfold vF
    cases(List.range (Œ m.2).length).all fun i=>match (Œ m.2)[i]?,chains[i]? with|some w,some c=>decide (ş (sT m w) c=0)|_,_=>false<;>rfl
  ·rw[Ú (by simp[ine,Ô]; omega),if_pos hl]
 ·rw[Ú (by simp[ine,hc]),if_pos hc]
def WhoP (m:ņ) (w:Way) (x d:Int):Int×Int:=if L3 m w≠0 then(0,L3 m w) else if nN m.1 x d≠0 then(0,nN m.1 x d) else(Ŕ m.2 w x d,0)
def ahC (hs:In m.1) (hn:m.2.length≤1000) (hw:∀l∈w,l.length≤100000) (x d:Int):Rs m w x d=some (WhoP m w x d):=by
 unfold Rs Wf WhoP;rw[adR hs hn hw,À]
 by_cases hc:L3 m w=0
 ·obtain⟨h,ho⟩:=Xu.1 hc;rw[Ð (by simp[ine,hc]),if_neg (by simp[hc]),Rg hs.size.gauges,À]
  by_cases hk:nN m.1 x d=0
  ·rw[Ð (by simp[ine,hk]),if_neg (by simp[hk]),h.who ho]; rfl
  ·rw[Ú (by simp[ine,hk]),if_pos hk]
 ·rw[Ú (by simp[ine,hc]),if_pos hc]
def acx:∀{ms:List Mx} {w:Way} (Q:Int→Prop) {d:Int},Ė ms w→(∀m∈ms,m.1<d→∀x∈m.2,Q x)→∀{x:Int},Q x→Q (YE ms w x d)
 |[],[],Q,d,_,_,x,hx=>hx
 |m::ms,l::ls,Q,d,h,hm,x,hx=>by
  rw[YE];refine acx Q h.2 (fun y hy=>hm y (dl _ hy)) ?_;rcases VA (d:=d) (m:=(m.1,l)) (l:=m.2) h.1.symm x with e|⟨e1,_,e2⟩
  ·rw[e]; exact hx
  ·exact hm m (by simp) e1 _ (h.1.subset e2)
def wg (b:Ĕ) (x:Int):Prop:=∃g,ö b x=some g
def WR {b:Ĕ} {x d:Int}:nN b x d=0↔(0≤d∧d≤20000)∧wg b x:=by
 unfold nN wg;rw[←Option.isSome_iff_exists]
 cases hd:IE d with
 |false =>
  simp only[fc,if_true];simp only[IE,inP,gQ,decide_eq_false_iff_not] at hd;constructor
  ·intro e; cases e
  ·rintro⟨e,_⟩; omega
 |true =>
  simp only[IE,inP,cI,decide_eq_true_eq] at hd
  cases ö b x<;>simp[hd]
def MOk.whoK (h:MOk m) (hw:Ė m.2 w) {d x:Int} (hx:wg m.1 x):wg m.1 (Ŕ m.2 w x d) :=
 IK (wg m.1) hw (fun y hy _ z hz=>let ⟨g,e,_⟩:=(h.mix hy).known z hz; ⟨g,e⟩) hx
def ad9 (m:ņ) (x:Mx):ņ:=(m.1,m.2++[x])
abbrev mix0:ņ:=(Va,[])
def Zk (m:ņ) (x:Mx):ņ×Int:=if ę m≠0 then(mix0,ę m) else if ę (ad9 m x)≠0 then(mix0,ę (ad9 m x)) else(ad9 m x,0)
def afI (hs:In m.1) (hn:m.2.length≤1000) {x:Mx} (hx:x.2.length≤1000):Iw m x=some (Zk m x):=by
 unfold Iw P8 Zk;rw[j7 hs hn,À]
 by_cases hc:ę m=0
 ·have h:=(ĩ m).1 hc;have h4:=h.n4
  have hcp:yV m.1=some m.1:=by
   unfold yV Fh;rw[aaH hs (by simp),À,RU,if_neg (by simp[(ś _).2 h.good])];unfold less;rw[List.filter_eq_self.2 (by simp)]
  rw[Ð (by simp[ine,hc]),if_neg (by simp[hc]),hcp,À,ý (Õ (by omega)),ý (Õ (by simp; omega))]
  have hl5:∀y∈m.2++[x],y.2.length≤1000:=fun y hy=>by
   rcases cN.1 hy with hy|hy
   ·have:=h.len5 y hy; omega
   ·rw[cQ.1 hy]; exact hx
  refine ģ (m.2++[x]) (fun i=>(m.2++[x]).take i) _ rfl (fun i y hi hy kn=>?_) (fun kn=>?_)
  ·try dsimp only
   unfold uF;have:=hl5 y (List.mem_of_getElem? hy);rw[List.length_append,List.length_singleton] at hi;rw[Ô,List.length_append,List.length_singleton,Ú (by simp[ilt]; omega),show í (m.2++[x])=((m.2.length+1:Nat):Int) by simp[í],Ĭ hi,ð hy,ý (Õ (by omega)),ý (Õ (by simp; omega)),Ó (by omega) (by omega),take_succ hy]
  ·try dsimp only
   unfold uF;rw[Ý,List.take_length];dsimp only;rw[show((m.1,m.2++[x]):ņ)=ad9 m x from rfl,show š (ad9 m x)=_ from j7 (m:=ad9 m x) hs (by simp[ad9]; omega),À]
   by_cases hc2:ę (ad9 m x)=0
   ·rw[Ð (by simp[ine,hc2]),if_neg (by simp[hc2])]
   ·rw[Ú (by simp[ine,hc2]),if_pos hc2]; rfl
 ·rw[Ú (by simp[ine,hc]),if_pos hc]; rfl
def xX (b:Ĕ) (n:Int×Int):(Int×Int)×Int:=if (rQ b n).2≠0 then((0,0),(rQ b n).2) else(ivR (rQ b n).1 n,0)
def abg {b:Ĕ} (h:Room b) {n:Int×Int} (e:(rQ b n).2=0):Room (rQ b n).1∧Vi (rQ b n).1 n:=by
 rcases abh e with⟨h1,h2⟩|⟨h1,h2,_⟩
 ·rw[h1];exact⟨h,(Ir h.good).1 h2⟩
 ·rw[h1];refine⟨⟨h2,?_,h.num⟩,aci n h2⟩;obtain⟨f,z,hh⟩:=(Td h.good).1 h.op;exact(Td h2).2 ⟨f,z,acj.2 hh⟩
def K5 {B:Ĕ} (h:Room B) {n:Int×Int} (hn:Vi B n) (K:(Int×Int)×Int→Option ρ) :
 (Ä (pW B n) fun r3=>Ä (iG B) fun r4=>Ä (tT r4.1) fun r5=>ifb (ine r5.2 (0:Int)) (K (((0:Int),(0:Int)),r5.2)) (Ĥ r5.1 r3.1 fun e6=>K (e6,(0:Int))))=K (ivR B n,0):=by
 have hI:In B:=⟨h.good.size,h.num⟩;have hi:=(Ir h.good).2 hn;have hr:=ag7 B n;have hsp:=afK h.good.sys h.good.tied h.op;rw[Mc hI,À,Mb,if_neg (by simp[(ś _).2 h.good]),if_neg hi,Vh hI,À,RW,if_neg (by simp[(ś _).2 h.good])];dsimp only;rw[show((((Ò B).length:Int)+1,i6 B):Sys)=((((Ò B).length+1:Nat):Int),i6 B) by simp,hsp,À,Ð (by rfl)];obtain⟨k,hk⟩:∃k:Nat,UF B n.1 n.2=k:=⟨(UF B n.1 n.2).toNat,by omega⟩;rw[hk,È (Zz (by omega))];unfold ivR dstR;rw[hk]
def acu {b:Ĕ} (h:Room b) (n:Int×Int):yU b n=some (xX b n):=by
 have hI:In b:=⟨h.good.size,h.num⟩;have hc:=(ś _).2 h.good;unfold yU Fe xX;rw[Mc hI,À]
 by_cases hi:UF b n.1 n.2=0
 ·have e1:(Mb b n).2=5:=by unfold Mb; rw[if_neg (by simp[hc]),if_pos hi]
  rw[Ú (by simp[ine,e1]),ahE hI,À,ahF,if_neg (by simp[hc])]
  by_cases h2:Ġ (Ū b n)=0
  ·have e:rQ b n=(Ū b n,0):=by unfold rQ; rw[if_neg (by simp[hi]),if_neg (by simp[h2])]
   obtain⟨r1,r2⟩:=abg h (n:=n) (by rw[e]);rw[e] at r1 r2;rw[if_neg (by simp[h2]),Ð (by rfl),K5 r1 r2,e,if_neg (by simp)]
  ·have e:rQ b n=(Va,Ġ (Ū b n)):=by unfold rQ; rw[if_neg (by simp[hi]),if_pos h2]
   rw[if_pos h2,Ú (by simp[ine,h2]),e,if_pos h2]
 ·have e1:(Mb b n).2=0:=by unfold Mb; rw[if_neg (by simp[hc]),if_neg hi]
  have e:rQ b n=(b,0):=by unfold rQ; rw[if_pos hi]
  rw[Ð (by simp[ine,e1]),←Mc hI,K5 h ((Ir h.good).1 hi),e,if_neg (by simp)]
def acO {α β:Type} {f:α→Option β}:∀{l:List α} {i:Nat} {x:α} {e:β},l[i]?=some x→(∀w∈l.take i,f w=none)→f x=some e→l.findSome? f=some e
 |[],_,_,_,h,_,_=>by simp at h
 |y::l,0,x,e,h,_,he=>by simp at h; subst h; rw[fW,he]
 |y::l,i+1,x,e,h,hp,he=>by
  rw[fW,hp y (by simp)];exact acO (by simpa using h) (fun w hw=>hp w (by simp[hw])) he
abbrev Fnd:=List (Int×(Int×Int))
def aad (s t:Int×Int):Int×Int:=(min s.1 t.1,max s.2 t.2)
def acP (m:ņ) (label d:Int) (M:Fnd) (w:Way):Fnd :=
 Jj (k:=tI) (v:=Ã) (Ŕ m.2 w label d) (match lR (k:=tI) (v:=Ã) (Ŕ m.2 w label d) M with|some s=>aad (xX (trP m w) (Ŕ m.2 w label d,d)).1 s|none=>(xX (trP m w) (Ŕ m.2 w label d,d)).1) M
def lV (m:ņ) (label d:Int) (l:List Way):Fnd:=l.foldl (acP m label d) []
def XH (m:ņ) (label d:Int) (w:Way):Int:=(xX (trP m w) (Ŕ m.2 w label d,d)).2
def vL (m:ņ) (label d:Int):List (Int×Int×Int)×Int :=
 if ę m≠0 then([],ę m) else if nN m.1 label d≠0 then([],nN m.1 label d) else if gZ m=[] then([],5) else
 match (gZ m).findSome? fun w=>Vq (XH m label d w) with
 |some e=>([],e)
 |none=>(m.1.2.1.filterMap fun g=>(lR (k:=tI) (v:=Ã) g.1 (lV m label d (gZ m))).map fun s=>(g.1,s),0)
def Ea (hw:w∈gZ m):Ė m.2 w∧lL m w=true:=by
 obtain⟨h1,h2⟩:=dT.1 hw;exact⟨pb.1 h1,h2⟩
def ae3 (h:MOk m):(gZ m).length≤150:=cZ (dY _ _) (ug h)
def agO (h:MOk m) (hw:Ė m.2 w) (he:lL m w=true):Room (trP m w):=⟨rP h hw,he,h.in_.num⟩
def Md (hs:In m.1) (hn:m.2.length≤1000) (label d:Int):oY m label d=some (vL m label d):=by
 unfold oY Fq vL;rw[j7 hs hn,À]
 by_cases hc:ę m=0
 ·have h:=(ĩ m).1 hc;have hG:=hs.size.gauges;have hgl:=ae3 h;rw[Ð (by simp[ine,hc]),if_neg (by simp[hc]),Rg hG,À]
  by_cases hk:nN m.1 label d=0
  ·rw[Ð (by simp[ine,hk]),if_neg (by simp[hk]),acH h,À]
   by_cases hnil:gZ m=[]
   ·rw[Ú (by simp[ieq,Ô,hnil]),if_pos hnil]
   ·have:(gZ m).length≠0:=fun e=>hnil (cY.1 e);rw[Ð (by simp[ieq,Ô,hnil]),if_neg hnil];have key:∀(l:List Way),(∀w∈l,Vq (XH m label d w)=none)→l.findSome? (fun w=>Vq (XH m label d w))=none:=fun l hl=>List.findSome?_eq_none_iff.2 hl;refine K3 (gZ m) (fun i=>lV m label d ((gZ m).take i)) _ (fun i=>∀w∈(gZ m).take i,Vq (XH m label d w)=none) rfl (fun w hw=>by simp at hw) (fun i x hi hx hp kn=>?_) (fun hp kn=>?_)
    ·obtain⟨x1,x2⟩:=Ea (cP hx);have hroom:=agO h x1 x2
     try dsimp only
     unfold oz;rw[Ï hi,È hx,show((((m.1.1.1,m.1.1.2),m.1.2.1,m.1.2.2.1,m.1.2.2.2.1,m.1.2.2.2.2.1,m.1.2.2.2.2.2),m.2):ņ)=m from rfl,h.who x1,À,qp h x1,À,acu hroom,À]
     by_cases he:XH m label d x=0
     ·refine .inr ⟨fun w hw=>?_,?_⟩
      ·rw[take_succ hx] at hw;rcases cN.1 hw with hw|hw
       ·exact hp w hw
       ·rw[cQ.1 hw,he]; rfl
      ·unfold XH at he
       have hst:lV m label d ((gZ m).take (i+1))=acP m label d (lV m label d ((gZ m).take i)) x:=by rw[take_succ hx,lV,List.foldl_append]; rfl
       rw[Ð (by simp[ine,he]),hst];unfold acP Mh
       cases lR (k:=tI) (v:=Ã) (Ŕ m.2 x label d) (lV m label d ((gZ m).take i)) with
       |none=>dsimp only; rw[Ë hi (by omega)]
       |some s =>
        dsimp only;rw[Ë hi (by omega),WW,acC]; rfl
     ·refine .inl ?_
      have hfs:(gZ m).findSome? (fun w=>Vq (XH m label d w))=some (XH m label d x):=by
       exact acO hx hp (by simp[Vq,he])
      rw[hfs];unfold XH at he ⊢;rw[Ú (by simp[ine,he])]
    ·rw[fI] at hp
     try dsimp only
     unfold oz;rw[Ý,key _ hp,List.take_length];dsimp only;refine ģ m.1.2.1 (fun i=>(m.1.2.1.take i).filterMap fun g=>(lR (k:=tI) (v:=Ã) g.1 (lV m label d (gZ m))).map fun s=>(g.1,s)) _ rfl (fun i g hi hg kn'=>?_) (fun kn'=>?_)
     ·try dsimp only
      unfold oy;have hle:((m.1.2.1.take i).filterMap fun g=>(lR (k:=tI) (v:=Ã) g.1 (lV m label d (gZ m))).map fun s=>(g.1,s)).length≤1000:=Nat.le_trans (List.length_filterMap_le _ _) (by rw[List.length_take]; omega);rw[Ï hi,È hg,take_succ hg,List.filterMap_append];unfold Mh
      cases hmg:lR (k:=tI) (v:=Ã) g.1 (lV m label d (gZ m)) with
      |none=>simp only[List.filterMap_cons,hmg,Option.map_none,List.filterMap_nil,dh]; rw[Ë hi (by omega)]
      |some s =>
       simp only[List.filterMap_cons,hmg,dI,List.filterMap_nil];rw[ý (Õ (by rw[dJ]; omega)),Ë hi (by omega)]
     ·try dsimp only
      unfold oy;rw[Ý,List.take_length]
  ·rw[Ú (by simp[ine,hk]),if_pos hk]
 ·rw[Ú (by simp[ine,hc]),if_pos hc]
end
def acb {ρ α:Type} [DecidableEq α] {l m:List α} (hl:l.length=m.length) (K:Bool→Option ρ) {f:Int→(Int→Option ρ)→Option ρ}
 (h:∀(i:Nat) (a b:α),i<l.length→l[i]?=some a→m[i]?=some b→∀kn,f i kn=if a=b then kn ((i:Int)+1) else K false) (hn:∀kn,f l.length kn=K true):Ê f 0=K (decide (l=m)):=by
 refine eN (mu l (fun i a=>if m[i]?=some a then none else some false) K (K true) (fun i a hi ha kn=>?_) hn) ?_
 ·have hm:m[i]?=some m[i]:=cG (by omega);rw[h i a _ hi ha hm,hm]
  by_cases he:a=m[i]
  ·simp[he]
  ·have:¬m[i]=a:=fun e=>he e.symm;simp[he,this]
 ·cases h:Ŋ (fun i a=>if m[i]?=some a then none else some false) 0 l with
  |none=>simp[Sz hl h]
  |some b =>
   obtain⟨h1,h2⟩:=Sy h;simp[h1,h2]
def aaJ {a b:Way} (hn:a.length≤1000000) (hl:∀l∈a,l.length≤1000000):rH a b=some (decide (a=b)):=by
 unfold rH xA;rw[Ô,Ô]
 by_cases he:a.length=b.length
 ·rw[Ð (by simp[ine,he])];refine acb he some (fun i x y hi hx hy kn=>?_) (fun kn=>?_)
  ·try dsimp only
   unfold lf;rw[Ï hi,È hx,È hy,L9 (hl x (List.mem_of_getElem? hx)),À,Ë hi (by omega),Ċ]
   by_cases h:x=y<;>simp[h]
  ·try dsimp only
   unfold lf;rw[Ý]
 ·rw[Ú (by simp[ine]; omega)];have:a≠b:=fun e=>he (by rw[e]);simp[this]
def adl {L:List Lk} {p:Int→Int} (hp:Pot L p) (c:List Int):ş L c≠0:=by
 unfold ş
 by_cases h2:lq L c=0
 case neg=>rw[if_pos h2]; exact h2
 rw[if_neg (by simp[h2])];have hi:=(WY h2).2
 cases c with
 |nil=>exact(by decide:(8:Int)≠0)
 |cons i t =>
  dsimp only;unfold Y0
  split
  ·rename_i h3;have:=XI hp (i::t) (L[i.toNat]?.getD (0,0,0)).1 0 hi h3.1;rw[h3.2.1] at this;have:=h3.2.2;omega
  ·decide
def adk {m:ņ} {w:Way} (h:MOk m) (hw:Ė m.2 w) {c:List Int} (hc:ş (sT m w) c=0):lL m w=false:=by
 rw[ej];intro he;have hg:=rP h hw;have hn:=hg.sys.n60;obtain⟨p,hp⟩:=(kH hg.sys.links (by omega)).1 he;exact adl hp c hc
def abG {m:ņ} (h:MOk m) {chains:List (List Int)} (hc:vF m chains=true):∀w∈Œ m.2,lL m w=false:=by
 intro w hw;obtain⟨i,hi,rfl⟩:=cT.1 hw;have:=di.1 hc i (gj.2 hi);rw[cG hi] at this
 cases hx:chains[i]? with
 |none=>rw[hx] at this; cases this
 |some c =>
  rw[hx] at this;exact adk h (pb.1 hw) (of_decide_eq_true this)
def SJ {m:ņ} (h:MOk m) (hs:ky m=false):vF m ((Œ m.2).map fun w=>AR (sT m w) (nT m w))=true:=by
 refine di.2 fun i hi=>?_;rw[gj] at hi;have hx:(Œ m.2)[i]?=some (Œ m.2)[i]:=cG hi;have hw:(Œ m.2)[i]∈Œ m.2:=fj hi;rw[eA,hx];have he:=dN.1 hs _ hw;exact decide_eq_true (UX (rP h (pb.1 hw)).sys (ej.2 he)).2.1
def exM (l:List Cmp):ņ:=(((0,2),[(1,0,1000,(-5,5),(1,10),1),(2,0,1000,(-50,50),(1,4),0),(3,0,1100,(-1,1),(0,1),0)],[(1,10)],[(1,(20,29),3)],(7,10,[1],[2],-20,1,100,200)::l,[]),[(12,[2,3])])
def ex8:Cmp:=(8,15,[2],[1],100,1,0,0)
def ex9:Cmp:=(9,15,[3],[],1100,0,0,0)
def acV {l:List Cmp} (hl:l.length≤10) (hp:∀c∈l,c.2.2.1.length≤10∧c.2.2.2.1.length≤10):In (exM l).1:=by
 refine⟨⟨by simp[exM],by simp[exM],by simp[exM],by simp[exM]; omega,by simp[exM],fun c hc=>?_⟩,fun g hg=>?_⟩
 ·rcases cO.1 (show c∈(7,10,[1],[2],-20,1,100,200)::l from hc) with rfl|hc
  ·exact⟨by decide,by decide⟩
  ·have:=hp c hc; omega
 ·simp only[exM,cO,eG,or_false] at hg
  rcases hg with rfl|rfl|rfl<;>exact⟨by decide,by decide⟩
def w0:ę (exM [])=0∧ę (exM [ex8])=0∧ę (exM [ex8,ex9])=0:=by decide +kernel
def w1:Œ (exM []).2=[[[2,3]],[[3,2]]]:=by decide +kernel
def w2:gZ (exM [])=[[[2,3]],[[3,2]]]:=by decide +kernel
def w3:xZ (exM [ex8])=([[3,2]],0):=by decide +kernel
def w4:vL (exM [ex8]) 2 15=([(3,1099,1101)],0):=by decide +kernel
def w5:ahI (exM [ex8,ex9])=([8,9],0):=by decide +kernel
def w6:adX (exM [ex8,ex9]) [7,8,9]=([8,9],0):=by decide +kernel
def w7:Gr (exM [ex8,ex9]) 2=(false,0):=by decide +kernel
def w8:ky (exM [ex8,ex9])=false:=by decide +kernel
def w9:WhoP (exM [ex8,ex9]) [[3,2]] 2 13=(3,0):=by decide +kernel
def sq:Ş=some true:=by
 have i0:In (exM []).1:=acV (by decide) (by simp);have i1:In (exM [ex8]).1:=acV (by decide) (by decide);have i2:In (exM [ex8,ex9]).1:=acV (by decide) (by decide)
 have n:∀l,(exM l).2.length≤1000:=fun l=>by simp[exM]
 have h0:=(ĩ _).1 w0.1;have h2:=(ĩ _).1 w0.2.2;have e0:Ŭ []=some (exM []):=rfl;have e1:Ŭ [((8:Int),(15:Int),[(2:Int)],[(1:Int)],(100:Int),(1:Int),(0:Int),(0:Int))]=some (exM [ex8]):=rfl;have e2:Ŭ [((8:Int),(15:Int),[(2:Int)],[(1:Int)],(100:Int),(1:Int),(0:Int),(0:Int)),((9:Int),(15:Int),[(3:Int)],[],(1100:Int),(0:Int),(0:Int),(0:Int))]=some (exM [ex8,ex9]):=rfl
 have hp:Zm (exM [ex8,ex9])=((Œ (exM [ex8,ex9]).2).map (fun w=>AR (sT (exM [ex8,ex9]) w) (nT (exM [ex8,ex9]) w)),0):=by
  unfold Zm; rw[if_neg (by simp[w0.2.2]),w8]; rfl
 have c1:mH (exM [ex8,ex9]) ((Œ (exM [ex8,ex9]).2).map fun w=>AR (sT (exM [ex8,ex9]) w) (nT (exM [ex8,ex9]) w))=0:=by
  unfold mH;rw[if_neg (by simp[w0.2.2]),if_neg (by simp),SJ h2 w8]; rfl
 have c2:∀c,mH (exM []) c=8:=fun c=>by
  unfold mH;rw[if_neg (by simp[w0.1])]
  split
  ·rfl
  ·rw[if_neg];intro hc;have:=abG h0 hc [[2,3]] (by rw[w1]; simp)
   have h3:[[2,3]]∈gZ (exM []):=by rw[w2]; simp
   rw[(Ea h3).2] at this;cases this
 unfold Ş Bb;rw[e0,À,ahD i0 (n _),À,if_neg (by simp[w0.1]),À,All_ok i0 (n _),À,if_neg (by simp[w0.1]),e1,À,Ma i1 (n _),À,À,Md i1 (n _),À,e2,À,ahH i2 (n _),À,Xy i2 (n _) (by simp),À,Vg i2 (n _),À,w1,w2,w3,w4,w5,w6,w7];rw[afN i2 (n _),À,hp,Ð (by rfl),Ð (by rfl),Ð (by rfl),Ð (by rfl),Ð (by rfl),Ð (by rfl),Ð (by rfl),Ð (by simp[ine,Ô]),Ð (by simp[ine,Ô]),Ð (by rfl)];rw[show ∀f:Way→Option Bool,Ĥ [[[2,3]],[[3,2]]] (1:Int) f=f [[3,2]] from fun f=>rfl];dsimp only;rw[ahC i2 (n _) (by decide),À,w9,Ð (by rfl),Ð (by rfl),Ð (by rfl),EH i2 (n _),À,c1,Ð (by rfl),À,EH i0 (n _),À,c2,Ð (by rfl)];rw[aaJ (by decide) (by decide),À,Ú (by rfl),Ú (by simp[ieq,Ô])];rw[show ∀f:Int×Int×Int→Option Bool,Ĥ [((3:Int),(1099:Int),(1101:Int))] (0:Int) f=f (3,1099,1101) from fun f=>rfl];dsimp only;rw[Ú (by rfl),L9 (by decide),À,Ú (by rfl),À];rfl
def acd {ρ α:Type} (l:List α) (K:Option ρ) {f:Int→(Int→Option ρ)→Option ρ} (h:∀(i:Nat) (a:α),i<l.length→l[i]?=some a→∀kn,f i kn=kn ((i:Int)+1)) (hn:∀kn,f l.length kn=K):Ê f 0=K:=by
 refine eN (i5 l (fun _=>false) (fun _=>K) K (fun i a hi ha kn=>by rw[h i a hi ha kn]; rfl) hn) ?_;rw[dE.2 (by simp)]
def bigP (c:Cmp):Bool:=decide (9<c.2.2.1.length)||decide (9<c.2.2.2.1.length)
def IX (m:ņ):Bool:=decide (m.1.2.1.length≤6)&&(decide (m.1.2.2.1.length≤20)&&(decide (m.1.2.2.2.1.length≤6)&&(decide (m.1.2.2.2.2.1.length≤8)&&(decide (m.1.2.2.2.2.2.length≤6)&&decide (m.2.length≤6)))))
def Su (m:ņ):Bool:=!((m.1.2.2.2.2.1.take 60).any bigP)&&(!((m.2.take 8).any fun x=>decide (9<x.2.length))&&IX m)
def abo (m:ņ):yS m=some (Su m):=by
 unfold yS E6
 have last:(ifb (ile (Ù m.1.2.1) (6:Int)) (ifb (ile (Ù m.1.2.2.1) (20:Int)) (ifb (ile (Ù m.1.2.2.2.1) (6:Int)) (ifb (ile (Ù m.1.2.2.2.2.1) (8:Int)) (ifb (ile (Ù m.1.2.2.2.2.2) (6:Int)) (some (ile (Ù m.2) (6:Int))) (some false)) (some false)) (some false)) (some false)) (some false))=some (IX m):=by
  have e:∀(n m:Nat),ile (n:Int) (m:Int)=decide (n≤m):=fun n m=>by simp[ile]
  unfold IX;rw[Ô,Ô,Ô,Ô,Ô,Ô,show(6:Int)=((6:Nat):Int) from rfl,show(20:Int)=((20:Nat):Int) from rfl,show(8:Int)=((8:Nat):Int) from rfl,e,e,e,e,e,e];generalize decide (m.1.2.1.length≤6)=x1;generalize decide (m.1.2.2.1.length≤20)=x2;generalize decide (m.1.2.2.2.1.length≤6)=x3;generalize decide (m.1.2.2.2.2.1.length≤8)=x4;generalize decide (m.1.2.2.2.2.2.length≤6)=x5
  cases x1<;>cases x2<;>cases x3<;>cases x4<;>cases x5<;>rfl
 rw[last];refine eN (ľ (m.1.2.2.2.2.1.take 60) bigP (fun _=>some false) (some false) (some (!((m.2.take 8).any fun x=>decide (9<x.2.length))&&IX m)) (fun _=>rfl) (fun i c hi hc kn=>?_) (fun kn=>?_)) ?_
 ·try dsimp only
  unfold oq;rw[List.length_take] at hi
  have hc':m.1.2.2.2.2.1[i]?=some c:=by rw[dO] at hc; split at hc<;>simp_all
  rw[Ï (show i<m.1.2.2.2.2.1.length by omega),Ú (by simp[ilt]; omega),È hc',È hc',Ó (by omega) (by omega),Ċ,Ô,Ô];unfold bigP
  by_cases h1:9<c.2.2.1.length
  ·rw[if_pos (by simp[igt]; omega),if_pos (by simp[h1])]
  ·rw[if_neg (by simp[igt]; omega),Ċ]
   by_cases h2:9<c.2.2.2.1.length
   ·rw[if_pos (by simp[igt]; omega),if_pos (by simp[h2])]
   ·rw[if_neg (by simp[igt]; omega),if_neg (by simp[h1,h2])]
 ·refine eN ?_ (eN (ľ (m.2.take 8) (fun x=>decide (9<x.2.length)) (fun _=>some false) (some false) (some (IX m)) (f:=fun v kk=>kL m.2 v (fun u=>kk u) (fun z=>some z) (fun _=>some (IX m))) (fun _=>rfl) (fun i x hi hx kn'=>?_) (fun kn'=>?_)) ?_)
  ·try dsimp only
   unfold oq;rw[List.length_take,Ċ]
   split
   ·rename_i h
    have h':60<m.1.2.2.2.2.1.length:=by rw[Ô] at h; simp[ilt] at h; omega
    rw[Ð (by simp[ilt]; omega)]
   ·rfl
  ·try dsimp only
   unfold kL;rw[List.length_take] at hi
   have hx':m.2[i]?=some x:=by rw[dO] at hx; split at hx<;>simp_all
   rw[Ï (show i<m.2.length by omega),Ú (by simp[ilt]; omega),È hx',Ó (by omega) (by omega),Ċ,Ô]
   by_cases h1:9<x.2.length
   ·rw[if_pos (by simp[igt]; omega),if_pos (by simp[h1])]
   ·rw[if_neg (by simp[igt]; omega),if_neg (by simp[h1])]
  ·try dsimp only
   unfold kL;rw[List.length_take,Ċ]
   split
   ·rename_i h
    have h':8<m.2.length:=by rw[Ô] at h; simp[ilt] at h; omega
    rw[Ð (by simp[ilt]; omega)]
   ·rfl
  ·cases List.any (List.take 8 m.2) (fun x=>decide (9<x.2.length))<;>rfl
 ·unfold Su
  cases List.any (List.take 60 m.1.2.2.2.2.1) bigP<;>rfl
structure Small7 (m:ņ):Prop where
 inn:In m.1
 n6:m.2.length≤6
 l9:∀x∈m.2,x.2.length≤9
 c8:m.1.2.2.2.2.1.length≤8
def abp {m:ņ} (h:Su m=true) (hn:∀g∈m.1.2.1,I64 g.2.2.2.2.1.1):Small7 m:=by
 simp only[Su,IX,cI,eh,decide_eq_true_eq] at h;obtain⟨h0,h1,h2,h3,h4,h5,h6,h7⟩:=h;refine⟨⟨⟨by omega,by omega,by omega,by omega,by omega,fun c hc=>?_⟩,hn⟩,h7,fun x hx=>?_,h5⟩
 ·rw[dV (by omega)] at h0;have:=dN.1 h0 c hc;simp[bigP] at this;omega
 ·rw[dV (by omega)] at h1;have:=dN.1 h1 x hx;simp at this;omega
def stp_id {d:Int} {m:Mx} (hn:m.2.Nodup) (x:Int):stp d m m.2 x=x:=by
 unfold stp
 split
 ·by_cases hx:x∈m.2
  ·obtain⟨k,h1,h2⟩:=Rk hx;rw[h1];dsimp only;rw[List.getD_eq_getElem?_getD,h2]; rfl
  ·rw[D8 hx]
 ·rfl
section
variable {m:ņ}
def aaX:∀{ms:List Mx} {w:Way} (x:Mx) (l:List Int) (y d:Int),w.length=ms.length→Ŕ (ms++[x]) (w++[l]) y d=Ŕ ms w (stp d x l y) d
 |[],[],x,l,y,d,_=>rfl
 |m::ms,k::w,x,l,y,d,h=>by
  rw[eR,eR,Ŕ,Ŕ,aaX x l y d (by simpa using h)]
def agm:∀{ms:List Mx} {w:Way} {x:Mx} {l:List Int},Ė ms w→l.Perm x.2→Ė (ms++[x]) (w++[l])
 |[],[],_,_,_,h=>⟨h,trivial⟩
 |_::_,_::_,_,_,h,hl=>⟨h.1,agm h.2 hl⟩
end
def Oo (x y:Int) (s:Int×Int):∀M:Fnd,lR (k:=tI) (v:=Ã) x (Jj (k:=tI) (v:=Ã) y s M)=if x=y then some s else lR (k:=tI) (v:=Ã) x M
 |[]=>by
  unfold Jj lR Ź lR
  by_cases h:x=y<;>simp[h]
 |e::M=>by
  unfold Jj
  by_cases h:y=e.1
  ·have:Ź tI y e.1=true:=by simp[Ź,h]
   rw[this];simp only;unfold lR
   by_cases hx:x=y
   ·subst hx; simp[Ź]
   ·have:Ź tI x y=false:=by simp[Ź,hx]
    have h2:Ź tI x e.1=false:=by simp[Ź,←h,hx]
    rw[this,if_neg hx];simp only[h2]
  ·have:Ź tI y e.1=false:=by simp[Ź,h]
   rw[this];simp only;unfold lR
   by_cases hx:x=e.1
   ·subst hx;rw[if_neg (fun e=>h e.symm)];simp[Ź]
   ·have h2:Ź tI x e.1=false:=by simp[Ź,hx]
    rw[h2];exact Oo x y s M
section
variable {m:ņ} {label d:Int}
def RY (m:ņ) (label d:Int) (w:Way):Int×Int:=(xX (trP m w) (Ŕ m.2 w label d,d)).1
def ad1 (m:ņ) (label d:Int) (l:List Way) (g:Int):Option (Int×Int)→Prop
 |none=>∀w∈l,Ŕ m.2 w label d≠g
 |some s=>(∃w∈l,Ŕ m.2 w label d=g∧(RY m label d w).1=s.1)∧(∃w∈l,Ŕ m.2 w label d=g∧(RY m label d w).2=s.2)∧∀w∈l,Ŕ m.2 w label d=g→s.1≤(RY m label d w).1∧(RY m label d w).2≤s.2
def aaf (l:List Way) (w:Way):lV m label d (l++[w])=acP m label d (lV m label d l) w:=by rw[lV,List.foldl_append]; rfl
def F7 (g:Int):∀n (l:List Way),l.length=n→ad1 m label d l g (lR (k:=tI) (v:=Ã) g (lV m label d l))
 |0,l,h=>by
  have:l=[]:=cY.1 h;subst this;intro w hw; cases hw
 |n+1,l,h=>by
  obtain⟨l',w,rfl⟩:∃l' w,l=l'++[w]:=⟨l.dropLast,l.getLast (by intro e; rw[e] at h; simp at h),(List.dropLast_concat_getLast _).symm⟩;have ih:=F7 g n l' (by simpa using h);rw[aaf,acP,Oo]
  by_cases hg:g=Ŕ m.2 w label d
  ·rw[if_pos hg,←hg]
   cases hm:lR (k:=tI) (v:=Ã) g (lV m label d l') with
   |none =>
    rw[hm] at ih;dsimp only;refine⟨⟨w,by simp,hg.symm,by unfold RY; rw[←hg]⟩,⟨w,by simp,hg.symm,by unfold RY; rw[←hg]⟩,fun v hv e=>?_⟩;rcases List.mem_append.1 hv with hv|hv
    ·exact absurd e (ih v hv)
    ·rw[List.mem_singleton.1 hv];unfold RY;rw[←hg];exact⟨Int.le_refl _,Int.le_refl _⟩
   |some s =>
    rw[hm] at ih;dsimp only;obtain⟨⟨w1,a1,a2,a3⟩,⟨w2,b1,b2,b3⟩,c⟩:=ih
    have hw:(xX (trP m w) (g,d)).1=RY m label d w:=by unfold RY; rw[←hg]
    rw[hw];refine⟨?_,?_,fun v hv e=>?_⟩
    ·rcases Int.le_total (RY m label d w).1 s.1 with h1|h1
     ·exact⟨w,by simp,hg.symm,by unfold aad; omega⟩
     ·exact⟨w1,by simp[a1],a2,by unfold aad; omega⟩
    ·rcases Int.le_total (RY m label d w).2 s.2 with h1|h1
     ·exact⟨w2,by simp[b1],b2,by unfold aad; omega⟩
     ·exact⟨w,by simp,hg.symm,by unfold aad; omega⟩
    ·unfold aad;rcases List.mem_append.1 hv with hv|hv
     ·have:=c v hv e; omega
     ·rw[cQ.1 hv]; omega
  ·rw[if_neg hg]
   cases hm:lR (k:=tI) (v:=Ã) g (lV m label d l') with
   |none =>
    rw[hm] at ih;intro v hv;rcases cN.1 hv with hv|hv
    ·exact ih v hv
    ·rw[cQ.1 hv]; exact fun e=>hg e.symm
   |some s =>
    rw[hm] at ih;obtain⟨⟨w1,a1,a2,a3⟩,⟨w2,b1,b2,b3⟩,c⟩:=ih;refine⟨⟨w1,by simp[a1],a2,a3⟩,⟨w2,by simp[b1],b2,b3⟩,fun v hv e=>?_⟩;rcases cN.1 hv with hv|hv
    ·exact c v hv e
    ·rw[cQ.1 hv] at e; exact absurd e.symm hg
def acE {l l':List Way} {m':ņ} {g:Int} {a b:Option (Int×Int)} (h1:∀w∈l,∃w'∈l',Ŕ m'.2 w' label d=Ŕ m.2 w label d∧RY m' label d w'=RY m label d w) (h2:∀w'∈l',∃w∈l,Ŕ m.2 w label d=Ŕ m'.2 w' label d∧RY m label d w=RY m' label d w')
 (ha:ad1 m label d l g a) (hb:ad1 m' label d l' g b):a=b:=by
 cases a with
 |none =>
  cases b with
  |none=>rfl
  |some s =>
   obtain⟨⟨w',hw',e,_⟩,_⟩:=hb;obtain⟨w,hw,e2,_⟩:=h2 w' hw';exact absurd (e2.trans e) (ha w hw)
 |some s =>
  cases b with
  |none =>
   obtain⟨⟨w,hw,e,_⟩,_⟩:=ha;obtain⟨w',hw',e2,_⟩:=h1 w hw;exact absurd (e2.trans e) (hb w' hw')
  |some t =>
   obtain⟨⟨w1,a1,a2,a3⟩,⟨w2,b1,b2,b3⟩,c⟩:=ha;obtain⟨⟨v1,a1',a2',a3'⟩,⟨v2,b1',b2',b3'⟩,c'⟩:=hb;obtain⟨x1,p1,p2,p3⟩:=h1 w1 a1;obtain⟨x2,q1,q2,q3⟩:=h1 w2 b1;obtain⟨y1,r1,r2,r3⟩:=h2 v1 a1';obtain⟨y2,t1,t2,t3⟩:=h2 v2 b1';have k1:=c' x1 p1 (p2.trans a2);have k2:=c' x2 q1 (q2.trans b2);have k3:=c y1 r1 (r2.trans a2');have k4:=c y2 t1 (t2.trans b2');rw[p3] at k1; rw[q3] at k2; rw[r3] at k3; rw[t3] at k4;congr 1;exact Prod.ext (by omega) (by omega)
end
def ag4 (m:ņ) (n:Int×Int):ņ:=(Ū m.1 n,m.2)
def agw (m:ņ) (w:Way) (n:Int×Int):trP (ag4 m n) w=Ū (trP m w) (wm m w n):=by
 show(_,_,_,_,_,(m.1.2.2.2.2.2++[n]).map _)=_;rw[fg];rfl
def Z6 {b:Ĕ} {n:Int×Int}:Vi b n↔n∈Ò b:=mU.symm
def aeP (b:Ĕ) (n:Int×Int):Int:=if 10≤b.2.2.2.2.2.length then 2 else if Gv (œ b) n.1 n.2≠0 then Gv (œ b) n.1 n.2 else if 59<(Ò (Ū b n)).length then 2 else if 300<2*(Ò (Ū b n)).length+2*b.2.2.2.2.1.length then 2 else 0
def OK {b:Ĕ} (h:Ξ b) (n:Int×Int):Ġ (Ū b n)=aeP b n:=by
 have h1:=h.nG; have h2:=h.nU; have h3:=h.nL; have h4:=h.nC; have h5:=h.nK
 have hf:lZ b.1 0 1000000=true:=by simp[lZ]; exact h.film
 unfold Ġ aeP;show(if !lZ b.1 0 1000000 then(1:Int) else if 12<b.2.1.length then 2 else if 40<b.2.2.1.length then 2 else if 12<b.2.2.2.1.length then 2 else if 40<b.2.2.2.2.1.length then 2 else if 10<(b.2.2.2.2.2++[n]).length then 2 else _)=_;rw[hf,if_neg (by simp),if_neg (by omega),if_neg (by omega),if_neg (by omega),if_neg (by omega),List.length_append,List.length_singleton]
 by_cases hk:10≤b.2.2.2.2.2.length
 ·rw[if_pos (by omega),if_pos hk]
 ·rw[if_neg (by omega),if_neg hk];have hge:mB (Ū b n)=0:=(B0 _).2 ⟨h.gauge,h.ids⟩;rw[hge,if_neg (by simp)]
  have hparts:(qt (Ū b n) (œ (Ū b n))).find? (fun e=>e != 0)=if Gv (œ b) n.1 n.2≠0 then some (Gv (œ b) n.1 n.2) else none:=by
   have e:qt (Ū b n) (œ (Ū b n))=qt b (œ b)++[Gv (œ b) n.1 n.2]:=by
    unfold qt;show b.2.2.1.map _++(b.2.2.2.1.mapIdx _++(b.2.2.2.2.1.mapIdx _++(b.2.2.2.2.2++[n]).map _))=_;rw[List.map_append];simp only[List.append_assoc];rfl
   have hz:(qt b (œ b)).find? (fun e=>e != 0)=none:=by
    rw[List.find?_eq_none];intro e he;unfold qt at he;simp only[List.mem_append,List.mem_map,List.mem_mapIdx] at he;rcases he with⟨u,hu,rfl⟩|⟨i,hi,rfl⟩|⟨i,hi,rfl⟩|⟨u,hu,rfl⟩
    ·simp[h.uses u hu]
    ·simp[h.loans i _ (cG hi)]
    ·simp[h.compares i _ (cG hi)]
    ·simp[h.looks u hu]
   rw[e,List.find?_append,hz,Option.none_or,fw]
   by_cases hu:Gv (œ b) n.1 n.2=0
   ·simp[hu]
   ·rw[show(Gv (œ b) n.1 n.2 != 0)=true from bne_iff_ne.2 hu,if_pos hu]
  rw[hparts]
  by_cases hu:Gv (œ b) n.1 n.2=0
  ·rw[if_neg (show ¬(Gv (œ b) n.1 n.2≠0) from fun h=>h hu),if_neg (show ¬(Gv (œ b) n.1 n.2≠0) from fun h=>h hu)];dsimp only;have hl:(Ū b n).2.1.length=b.2.1.length∧(Ū b n).2.2.2.2.1.length=b.2.2.2.2.1.length:=⟨rfl,rfl⟩;rw[hl.1,hl.2]
   split
   ·rfl
   ·by_cases hh:300<2*(Ò (Ū b n)).length+2*b.2.2.2.2.1.length
    ·rw[if_pos (by omega),if_pos hh]
    ·rw[if_neg (by omega),if_neg hh]
  ·rw[if_pos hu,if_pos hu]
def Yx {b:Ĕ} (hi:b.2.1.Pairwise fun a c=>a.1<c.1) {n:Int×Int} (hn:∃g,ö b n.1=some g):(Ò (Ū b n)).length=if n∈Ò b then(Ò b).length else(Ò b).length+1:=by
 have key:∀g∈b.2.1,∀e,e∈ä (Ū b n) g↔e∈ä b g∨(n.1=g.1∧n.2=e):=fun g _ e=>by
  rw[Ż,Ż];show _∨_∨(∃x∈b.2.2.2.2.2++[n],x.1=g.1∧x.2=e)↔_;simp only[cN,cQ];constructor
  ·rintro(h|h|⟨x,hx|rfl,h⟩)
   ·exact .inl (.inl h)
   ·exact .inl (.inr (.inl h))
   ·exact .inl (.inr (.inr ⟨x,hx,h⟩))
   ·exact .inr h
  ·rintro((h|h|⟨x,hx,h⟩)|h)
   ·exact .inl h
   ·exact .inr (.inl h)
   ·exact .inr (.inr ⟨x,.inl hx,h⟩)
   ·exact .inr (.inr ⟨n,.inr rfl,h⟩)
 have mem:∀p:Int×Int,p∈Ò (Ū b n)↔p∈Ò b∨p=n:=fun p=>by
  rw[show p=(p.1,p.2) from rfl,mU,mU];constructor
  ·rintro⟨g,hg,e,hd⟩;have hg:g∈b.2.1:=hg;rcases(key g hg p.2).1 hd with h|⟨h1,h2⟩
   ·exact .inl ⟨g,hg,e,h⟩
   ·exact .inr (Prod.ext (e.symm.trans h1.symm) h2.symm)
  ·rintro(⟨g,hg,e,hd⟩|h)
   ·exact⟨g,hg,e,(key g hg p.2).2 (.inl hd)⟩
   ·obtain⟨g,hgo⟩:=hn;obtain⟨g1,g2⟩:=ii hgo;have h1:p=n:=h;subst h1;exact⟨g,g1,g2,(key g g1 p.2).2 (.inr ⟨g2.symm,rfl⟩)⟩
 have nd:=ut (b:=Ū b n) hi;have nd0:=ut hi
 split
 ·rename_i hin;exact Nat.le_antisymm (d8 nd fun p hp=>((mem p).1 hp).elim id fun e=>e▸hin) (d8 nd0 fun p hp=>(mem p).2 (.inl hp))
 ·rename_i hin;have nd1:(n::Ò b).Nodup:=eW.2 ⟨hin,nd0⟩;have:=Nat.le_antisymm (d8 nd (l₂:=n::Ò b) fun p hp=>((mem p).1 hp).elim (fun h=>dl _ h) fun e=>by rw[e]; simp) (d8 nd1 fun p hp=>(cO.1 hp).elim (fun e=>(mem p).2 (.inr e)) fun h=>(mem p).2 (.inl h));rw[this,cX]
section
variable {m:ņ} {w:Way} {n:Int×Int}
def Yq (h:MOk m) (hw:Ė m.2 w):wm m w n∈Ò (trP m w)↔n∈Ò m.1:=by
 constructor
 ·intro hn;obtain⟨x,e,hx⟩:=Gx (y:=(wm m w n).1) (d:=n.2) h hw hn;have:x=n.1:=h.inj hw e;subst this;exact hx
 ·intro hn;exact abc h hw (x:=n.1) (d:=n.2) hn
def use_T (h:MOk m) (hw:Ė m.2 w) (hk:wg m.1 n.1):Gv (œ (trP m w)) (wm m w n).1 n.2=Gv (œ m.1) n.1 n.2:=by
 show Gv (œ m.1) (Ŕ m.2 w n.1 n.2) n.2=_;unfold Gv
 cases hd:IE n.2 with
 |false=>rfl
 |true =>
  simp only[dB,cV,if_false];obtain⟨g,hg⟩:=hk
  by_cases hm:g.2.1≤n.2
  ·rw[(sG h.good.ids).2 ⟨g,hg,hm⟩,(sG h.good.ids).2 (h.whoG hw ⟨g,hg,hm⟩)]
  ·have:Ŕ m.2 w n.1 n.2=n.1:=yz hw fun y hy hd hx=>by
    obtain⟨g',e1,e2⟩:=(h.mix hy).known _ hx;rw[hg] at e1; cases e1;omega
   rw[this]
def look_T (h:MOk m) (hw:Ė m.2 w) (hk:wg m.1 n.1):Ġ (Ū (trP m w) (wm m w n))=Ġ (Ū m.1 n):=by
 have hg:=rP h hw
 have e1:(trP m w).2.2.2.2.2.length=m.1.2.2.2.2.2.length:=by show(m.1.2.2.2.2.2.map _).length=_; rw[dA]
 have e2:(trP m w).2.2.2.2.1.length=m.1.2.2.2.2.1.length:=by show(m.1.2.2.2.2.1.map _).length=_; rw[dA]
 have hk':∃g,ö (trP m w) (wm m w n).1=some g:=h.whoK hw hk;have e3:=Yx (b:=trP m w) (abd h) hk';have e4:=Yx (b:=m.1) h.good.ids hk
 have e5:(Ò (Ū (trP m w) (wm m w n))).length=(Ò (Ū m.1 n)).length:=by
  rw[e3,e4,afW h hw]
  by_cases hn:n∈Ò m.1
  ·rw[if_pos ((Yq h hw).2 hn),if_pos hn]
  ·rw[if_neg fun hx=>hn ((Yq h hw).1 hx),if_neg hn]
 rw[OK hg,OK h.good,aeP,aeP,e1,e2,e5];have:=use_T h hw hk;rw[show Gv (œ (trP m w)) (wm m w n).1 (wm m w n).2=_ from this]
def YI {b:Ĕ} (h:Ξ b) {n:Int×Int}:UF b n.1 n.2=0↔n∉Ò b:=by
 rw[←Z6,←Ir h];omega
def abi (h:MOk m) (hw:Ė m.2 w) (hk:wg m.1 n.1):rQ (trP m w) (wm m w n)=if n∈Ò m.1 then(trP m w,0) else if Ġ (Ū m.1 n)≠0 then(Va,Ġ (Ū m.1 n)) else(trP (ag4 m n) w,0):=by
 have hg:=rP h hw;unfold rQ;rw[look_T h hw hk,agw]
 by_cases hn:n∈Ò m.1
 ·rw[if_pos (fun e=>(YI hg).1 e ((Yq h hw).2 hn)),if_pos hn]
 ·rw[if_neg (by have:=(YI hg).2 fun hx=>hn ((Yq h hw).1 hx); simpa using this),if_neg hn]
def agE (h:MOk m) (hw:Ė m.2 w) (hk:wg m.1 n.1) (hn:n∈Ò m.1):rQ (trP m w) (wm m w n)=(trP m w,0):=by rw[abi h hw hk,if_pos hn]
def aek (h:MOk m) (hw:Ė m.2 w) (hk:wg m.1 n.1) (hn:n∉Ò m.1) (hc:Ġ (Ū m.1 n)≠0):rQ (trP m w) (wm m w n)=(Va,Ġ (Ū m.1 n)):=by rw[abi h hw hk,if_neg hn,if_pos hc]
def aei (h:MOk m) (hw:Ė m.2 w) (hk:wg m.1 n.1) (hn:n∉Ò m.1) (hc:Ġ (Ū m.1 n)=0):rQ (trP m w) (wm m w n)=(trP (ag4 m n) w,0):=by rw[abi h hw hk,if_neg hn,if_neg (fun e=>e hc)]
def Ps (m:ņ) (n:Int×Int):Int:=if n∈Ò m.1 then 0 else Ġ (Ū m.1 n)
def agr (h:MOk m) (hw:Ė m.2 w) (hk:wg m.1 n.1):XH m n.1 n.2 w=Ps m n:=by
 unfold XH xX Ps;rw[show((Ŕ m.2 w n.1 n.2,n.2):Int×Int)=wm m w n from rfl]
 by_cases hn:n∈Ò m.1
 ·rw[agE h hw hk hn,if_pos hn,if_neg (by simp)]
 ·rw[if_neg hn]
  by_cases hc:Ġ (Ū m.1 n)=0
  ·rw[aei h hw hk hn hc,if_neg (by simp),hc]
  ·rw[aek h hw hk hn hc,if_pos hc]
def LH (h:MOk m) (label d:Int):vL m label d=if nN m.1 label d≠0 then([],nN m.1 label d) else if gZ m=[] then([],5) else if Ps m (label,d)≠0 then([],Ps m (label,d)) else
 (m.1.2.1.filterMap fun g=>(lR (k:=tI) (v:=Ã) g.1 (lV m label d (gZ m))).map fun s=>(g.1,s),0):=by
 have hc:¬(ę m≠0):=fun e=>e ((ĩ m).2 h);unfold vL;rw[if_neg hc]
 by_cases hk:nN m.1 label d=0
 ·have hk':¬(nN m.1 label d≠0):=fun e=>e hk;rw[if_neg hk',if_neg hk']
  by_cases hg:gZ m=[]
  ·rw[if_pos hg,if_pos hg]
  ·rw[if_neg hg,if_neg hg];have hkg:=(WR.1 hk).2;have hw:∀w∈gZ m,XH m label d w=Ps m (label,d):=fun w hw=>agr (n:=(label,d)) h (Ea hw).1 hkg
   by_cases he:Ps m (label,d)=0
   ·have:(gZ m).findSome? (fun w=>Vq (XH m label d w))=none:=List.findSome?_eq_none_iff.2 fun w hw'=>by rw[hw w hw',he]; rfl
    rw[this,if_neg (fun e=>e he)]
   ·have:(gZ m).findSome? (fun w=>Vq (XH m label d w))=some (Ps m (label,d)):=by
     cases hgl:gZ m with
     |nil=>exact absurd hgl hg
     |cons x t =>
      rw[fW,hw x (by rw[hgl]; simp)];simp[Vq,he]
    rw[this,if_pos he]
 ·rw[if_pos hk,if_pos hk]
end
def agx {m m':ņ} {w w':Way} (q:Int) (hb:m'.1=m.1) (hw:∀x d,d≠q→Ŕ m'.2 w' x d=Ŕ m.2 w x d) (hu:∀u∈m.1.2.2.1,u.2≠q) (hl:∀l∈m.1.2.2.2.1,l.2.1.1≠q) (hc:∀c∈m.1.2.2.2.2.1,c.2.1≠q) (hk:∀n∈m.1.2.2.2.2.2,n.2≠q):trP m' w'=trP m w:=by
 have e1:m.1.2.2.1.map (fun u=>((Ŕ m'.2 w' u.1 u.2,u.2):Int×Int))=m.1.2.2.1.map (fun u=>(Ŕ m.2 w u.1 u.2,u.2)):=d9 fun u h=>by rw[hw _ _ (hu u h)]
 have e2:m.1.2.2.2.1.map (fun l=>((Ŕ m'.2 w' l.1 l.2.1.1,l.2):IH))=m.1.2.2.2.1.map (fun l=>(Ŕ m.2 w l.1 l.2.1.1,l.2)):=d9 fun l h=>by rw[hw _ _ (hl l h)]
 have e3:m.1.2.2.2.2.1.map (aap m' w')=m.1.2.2.2.2.1.map (aap m w):=d9 fun c h=>by
  have:∀l,kD m' w' c.2.1 l=kD m w c.2.1 l:=fun l=>by
   unfold kD;rw[List.map_congr_left fun x _=>hw x c.2.1 (hc c h)]
  unfold aap;rw[this,this]
 have e4:m.1.2.2.2.2.2.map (fun n=>((Ŕ m'.2 w' n.1 n.2,n.2):Int×Int))=m.1.2.2.2.2.2.map (fun n=>(Ŕ m.2 w n.1 n.2,n.2)):=d9 fun n h=>by rw[hw _ _ (hk n h)]
 unfold trP;rw[hb,e1,e2,e3,e4]
def aeB {a b:List Int} (ha:a.Nodup) (hb:b.Nodup) (h:∀x,x∈a↔x∈b):a.Perm b:=by
 have st:∀l:List Int,l.Nodup→(ln l).Pairwise (·<·):=fun l hl=>((jm l).and ((ğ l).nodup_iff.2 hl)).imp fun⟨p,q⟩=>Int.lt_iff_le_and_ne.2 ⟨p,q⟩
 have:=adU (st a ha) (st b hb) fun x=>by rw[(ğ a).mem_iff,(ğ b).mem_iff,h]
 exact(ğ a).symm.trans (this▸ğ b)
def afj {a b:Int} {l w1 w2:List Int} (hl:l.Nodup) (h1:w1.Perm l) (h2:w2.Perm l) (hab:b=a+1):∃w',w'.Perm l∧∀x d,d≠b→Ŕ [(a,l)] [w'] x d=Ŕ [(a,l),(b,l)] [w1,w2] x d:=by
 have hw:Ė [(a,l),(b,l)] [w1,w2]:=⟨h1,h2,trivial⟩
 have hn:∀x∈[((a,l):Mx),(b,l)],x.2.Nodup:=fun x hx=>by
  simp only[cO,eG,or_false] at hx
  rcases hx with rfl|rfl<;>exact hl
 have hin:∀y∈l,YE [(a,l),(b,l)] [w1,w2] y (b+1)∈l:=fun y hy=>acx (·∈l) hw (fun m hm _ z hz=>by
  simp only[cO,eG,or_false] at hm
  rcases hm with rfl|rfl<;>exact hz) hy
 have hnd:(l.map fun y=>YE [(a,l),(b,l)] [w1,w2] y (b+1)).Nodup:=List.pairwise_map.2 (List.Pairwise.imp (fun {x y} hne e=>hne (by rw[←Pk hw hn x (b+1),e,Pk hw hn])) hl)
 have hp:(l.map fun y=>YE [(a,l),(b,l)] [w1,w2] y (b+1)).Perm l:=by
  refine aeB hnd hl fun y=>⟨fun hy=>?_,fun hy=>?_⟩
  ·obtain⟨z,hz,rfl⟩:=dt.1 hy;exact hin z hz
  ·have hg:Ŕ [(a,l),(b,l)] [w1,w2] y (b+1)∈l:=IK (·∈l) hw (fun m hm _ z hz=>by
    simp only[cO,eG,or_false] at hm
    rcases hm with rfl|rfl<;>exact hz) hy
   exact dt.2 ⟨_,hg,K6 hw hn _ _⟩
 refine⟨_,hp,fun x d hd=>?_⟩;rcases gq b d with hlt|hge
 ·have hb:Ŕ [(a,l),(b,l)] [w1,w2] x d=Ŕ [(a,l),(b,l)] [w1,w2] x (b+1):=IL (d:=b+1) (e:=d) hw (by simp; omega) (by omega) fun m hm h3 h4=>by
   simp only[cO,eG,or_false] at hm
   rcases hm with rfl|rfl<;>dsimp only at h3 h4<;>omega
  rw[hb];show stp d (a,l) _ x=_;unfold stp;rw[if_pos (by dsimp only; omega)]
  by_cases hx:x∈l
  ·have hg:Ŕ [(a,l),(b,l)] [w1,w2] x (b+1)∈l:=IK (·∈l) hw (fun m hm _ z hz=>by
    simp only[cO,eG,or_false] at hm
    rcases hm with rfl|rfl<;>exact hz) hx
   obtain⟨k,hk⟩:=List.mem_iff_getElem?.1 hg
   have:(l.map fun y=>YE [(a,l),(b,l)] [w1,w2] y (b+1))[k]?=some x:=by rw[eA,hk,dI,K6 hw hn]
   rw[af9 hnd this];dsimp only;rw[List.getD_eq_getElem?_getD,hk]; rfl
  ·rw[D8 fun h=>hx (hp.subset h)];dsimp only
   exact(yz hw fun m hm _ h=>hx (by
    simp only[cO,eG,or_false] at hm
    rcases hm with rfl|rfl<;>exact h)).symm
 ·rcases gq a d with h3|h3
  ·omega
  ·have e1:∀w':List Int,Ŕ [(a,l)] [w'] x d=x:=fun w'=>by
    show stp d (a,l) w' x=x;unfold stp;rw[if_neg (by dsimp only; omega)]
   rw[e1];show x=stp d (a,l) w1 (stp d (b,l) w2 x);unfold stp;rw[if_neg (show ¬(b:Int)<d by omega),if_neg (show ¬(a:Int)<d by omega)]
section
variable {ρ:Type}
def tw_L0 (q:Int) {l:List (Int×Int)} (hl:l.length≤1000) (K:Bool→Option ρ) (Z:Option ρ):Ê (fun(v:Int) kk=>ji q l v (fun u=>kk u) K (fun _=>Z)) 0=if l.any (fun u=>u.2==q) then K true else Z:=by
 refine ľ l _ (fun _=>K true) (K true) Z (fun _=>rfl) (fun i a hi ha kn=>?_) (fun kn=>?_)<;>(try dsimp only)<;>unfold ji
 ·rw[Ï hi,È ha,sq,À,Ë hi (by omega),Ċ]
 ·rw[Ý]
def tw_L1 (q:Int) {l:List Cmp} (hl:l.length≤1000) (K:Bool→Option ρ) (Z:Option ρ):Ê (fun(v:Int) kk=>jh q l v (fun u=>kk u) K (fun _=>Z)) 0=if l.any (fun c=>c.2.1==q) then K true else Z:=by
 refine ľ l _ (fun _=>K true) (K true) Z (fun _=>rfl) (fun i a hi ha kn=>?_) (fun kn=>?_)<;>(try dsimp only)<;>unfold jh
 ·rw[Ï hi,È ha,sq,À,Ë hi (by omega),Ċ]
 ·rw[Ý]
def tw_L2 (q:Int) {l:List (Int×Int)} (hl:l.length≤1000) (K:Bool→Option ρ) (Z:Option ρ):Ê (fun(v:Int) kk=>jg q l v (fun u=>kk u) K (fun _=>Z)) 0=if l.any (fun u=>u.2==q) then K true else Z:=by
 refine ľ l _ (fun _=>K true) (K true) Z (fun _=>rfl) (fun i a hi ha kn=>?_) (fun kn=>?_)<;>(try dsimp only)<;>unfold jg
 ·rw[Ï hi,È ha,sq,À,Ë hi (by omega),Ċ]
 ·rw[Ý]
def tw_L3 (q:Int) {l:List IH} (hl:l.length≤1000) (K:Bool→Option ρ) (Z:Option ρ):Ê (fun(v:Int) kk=>jf q l v (fun u=>kk u) K (fun _=>Z)) 0=if l.any (fun y=>decide (y.2.1.1≤aeb (q+1))&&decide (q≤y.2.1.2)) then K true else Z:=by
 refine ľ l _ (fun _=>K true) (K true) Z (fun _=>rfl) (fun i a hi ha kn=>?_) (fun kn=>?_)<;>(try dsimp only)<;>unfold jf
 ·rw[Ï hi,È ha,show ∀f:Int→Option ρ,ck (q+1) f=f (aeb (q+1)) from fun _=>rfl,È ha,sq,À,Ë hi (by omega)]
  by_cases h1:a.2.1.1≤aeb (q+1)<;>by_cases h2:q≤a.2.1.2<;>simp[ile,h1,h2,Ċ]
 ·rw[Ý]
end
def aaW {n:Int} (h1 : -9223372036854775808≤n) (h2:n≤9223372036854775807):aeb n=n:=by
 have:=Ó (ρ:=Int) h1 h2 some;unfold ck at this;exact Option.some.inj this
def Xz (a q:Int) (l:List Int) (w w':Way):Prop:=∀y e,e≠q→Ŕ [(a,l)] w y e=Ŕ [(a,l),(q,l)] w' y e
def agu {a q:Int} {l:List Int} (hnd:l.Nodup) (hq:q=a+1) {w':Way} (hw':Ė [(a,l),(q,l)] w'):∃w,Ė [(a,l)] w∧Xz a q l w w':=by
 obtain⟨w1,w2,rfl⟩:∃w1 w2,w'=[w1,w2]:=by
  have:=hw'.len
  match w',this with
  |[w1,w2],_=>exact⟨_,_,rfl⟩
 obtain⟨w0,p1,p2⟩:=afj (a:=a) (b:=q) hnd hw'.1 hw'.2.1 hq;exact⟨[w0],⟨p1,trivial⟩,p2⟩
def agv {a q:Int} {l:List Int} (hnd:l.Nodup) {w:Way} (hw:Ė [(a,l)] w):∃w',Ė [(a,l),(q,l)] w'∧Xz a q l w w':=by
 have h1:Ė ([(a,l)]++[(q,l)]) (w++[l]):=agm (x:=(q,l)) hw (List.Perm.refl _);refine⟨w++[l],h1,fun y e _=>?_⟩;have h2:Ŕ ([(a,l)]++[(q,l)]) (w++[l]) y e=Ŕ [(a,l)] w (stp e (q,l) l y) e:=aaX (q,l) l y e hw.len;have h3:stp e (q,l) l y=y:=stp_id (m:=(q,l)) hnd y;rw[h3] at h2;exact h2.symm
section
variable {b:Ĕ} {a q:Int} {l:List Int}
def afT (a1:∀u∈b.2.2.1,u.2≠q) (hlo:∀l∈b.2.2.2.1,l.2.1.1≠q) (a2:∀c∈b.2.2.2.2.1,c.2.1≠q) (a3:∀n∈b.2.2.2.2.2,n.2≠q) {w w':Way} (he:Xz a q l w w'):trP (b,[(a,l),(q,l)]) w'=trP (b,[(a,l)]) w :=
 agx (m:=(b,[(a,l)])) (m':=(b,[(a,l),(q,l)])) q rfl (fun y e hne=>(he y e hne).symm) a1 hlo a2 a3
def XN (a1:∀u∈b.2.2.1,u.2≠q) (hlo:∀l∈b.2.2.2.1,l.2.1.1≠q) (a2:∀c∈b.2.2.2.2.1,c.2.1≠q) (a3:∀n∈b.2.2.2.2.2,n.2≠q) {w w':Way} (o1:Ė [(a,l)] w) (o2:Ė [(a,l),(q,l)] w') (he:Xz a q l w w'):w∈gZ (b,[(a,l)])↔w'∈gZ (b,[(a,l),(q,l)]):=by
 have h1:lL (b,[(a,l),(q,l)]) w'=lL (b,[(a,l)]) w:=by unfold lL; rw[afT a1 hlo a2 a3 he]
 unfold gZ;rw[List.mem_filter,List.mem_filter,pb,pb,h1];exact and_congr (iff_of_true o1 o2) Iff.rfl
def afV (hnd:l.Nodup) (a1:∀u∈b.2.2.1,u.2≠q) (hlo:∀l∈b.2.2.2.1,l.2.1.1≠q) (a2:∀c∈b.2.2.2.2.1,c.2.1≠q) (a3:∀n∈b.2.2.2.2.2,n.2≠q) {w:Way} (hw:w∈gZ (b,[(a,l)])):∃w'∈gZ (b,[(a,l),(q,l)]),Xz a q l w w':=by
 have o1:Ė [(a,l)] w:=(Ea hw).1;obtain⟨w',o2,he⟩:=agv (q:=q) hnd o1;exact⟨w',(XN a1 hlo a2 a3 o1 o2 he).1 hw,he⟩
def afU (hnd:l.Nodup) (hq:q=a+1) (a1:∀u∈b.2.2.1,u.2≠q) (hlo:∀l∈b.2.2.2.1,l.2.1.1≠q) (a2:∀c∈b.2.2.2.2.1,c.2.1≠q) (a3:∀n∈b.2.2.2.2.2,n.2≠q) {w':Way} (hw:w'∈gZ (b,[(a,l),(q,l)])):∃w∈gZ (b,[(a,l)]),Xz a q l w w':=by
 have o2:Ė [(a,l),(q,l)] w':=(Ea hw).1;obtain⟨w,o1,he⟩:=agu hnd hq o2;exact⟨w,(XN a1 hlo a2 a3 o1 o2 he).2 hw,he⟩
def aa7 (hnd:l.Nodup) (hq:q=a+1) (a1:∀u∈b.2.2.1,u.2≠q) (hlo:∀l∈b.2.2.2.1,l.2.1.1≠q) (a2:∀c∈b.2.2.2.2.1,c.2.1≠q) (a3:∀n∈b.2.2.2.2.2,n.2≠q):gZ (b,[(a,l)])=[]↔gZ (b,[(a,l),(q,l)])=[]:=by
 rw[f6,f6];exact⟨fun e w' hw=>let ⟨w,h1,_⟩:=afU hnd hq a1 hlo a2 a3 hw; e w h1,fun e w hw=>let ⟨w',h1,_⟩:=afV hnd a1 hlo a2 a3 hw; e w' h1⟩
def aee (hnd:l.Nodup) (hq:q=a+1) (a1:∀u∈b.2.2.1,u.2≠q) (hlo:∀l∈b.2.2.2.1,l.2.1.1≠q) (a2:∀c∈b.2.2.2.2.1,c.2.1≠q) (a3:∀n∈b.2.2.2.2.2,n.2≠q):ky (b,[(a,l),(q,l)])=ky (b,[(a,l)]):=by
 rw[gb,←gM,←gM,←UH,←UH,aa7 hnd hq a1 hlo a2 a3]
def aa8 (hc:¬ę (b,[(a,l)])≠0) (hc2:¬ę (b,[(a,l),(q,l)])≠0) (hs:ky (b,[(a,l),(q,l)])=ky (b,[(a,l)])):(xZ (b,[(a,l),(q,l)])).2=(xZ (b,[(a,l)])).2:=by
 unfold xZ;rw[if_neg hc,if_neg hc2,hs]
 split<;>rfl
def XM (a1:∀u∈b.2.2.1,u.2≠q) (hlo:∀l∈b.2.2.2.1,l.2.1.1≠q) (a2:∀c∈b.2.2.2.2.1,c.2.1≠q) (a3:∀n∈b.2.2.2.2.2,n.2≠q) {label d:Int} (hd:d≠q) {w w':Way} (he:Xz a q l w w'):Ŕ [(a,l),(q,l)] w' label d=Ŕ [(a,l)] w label d∧RY (b,[(a,l),(q,l)]) label d w'=RY (b,[(a,l)]) label d w:=by
 have e1:Ŕ [(a,l),(q,l)] w' label d=Ŕ [(a,l)] w label d:=(he label d hd).symm;refine⟨e1,?_⟩;unfold RY;rw[afT a1 hlo a2 a3 he];dsimp only;rw[e1]
def aa9 (hnd:l.Nodup) (hq:q=a+1) (a1:∀u∈b.2.2.1,u.2≠q) (hlo:∀l∈b.2.2.2.1,l.2.1.1≠q) (a2:∀c∈b.2.2.2.2.1,c.2.1≠q) (a3:∀n∈b.2.2.2.2.2,n.2≠q) {label d:Int} (hd:d≠q) (g:Int):lR (k:=tI) (v:=Ã) g (lV (b,[(a,l),(q,l)]) label d (gZ (b,[(a,l),(q,l)])))=lR (k:=tI) (v:=Ã) g (lV (b,[(a,l)]) label d (gZ (b,[(a,l)]))):=by
 refine acE (m:=(b,[(a,l),(q,l)])) (m':=(b,[(a,l)])) (fun w' hw'=>?_) (fun w hw=>?_) (F7 g _ _ rfl) (F7 g _ _ rfl)
 ·obtain⟨w,p1,p2⟩:=afU hnd hq a1 hlo a2 a3 hw';obtain⟨q1,q2⟩:=XM a1 hlo a2 a3 hd p2;exact⟨w,p1,q1.symm,q2.symm⟩
 ·obtain⟨w',p1,p2⟩:=afV hnd a1 hlo a2 a3 hw;obtain⟨q1,q2⟩:=XM a1 hlo a2 a3 hd p2;exact⟨w',p1,q1,q2⟩
end
def Zt {b:Ĕ} {a q:Int} {l:List Int} (hc:¬ę (b,[(a,l)])≠0) (hc2:¬ę (b,[(a,l),(q,l)])≠0) (h:MOk (b,[(a,l)])) (h':MOk (b,[(a,l),(q,l)])) (hq1:q=a+1) (a1:∀u∈b.2.2.1,u.2≠q) (hlo:∀l∈b.2.2.2.1,l.2.1.1≠q) (a2:∀c∈b.2.2.2.2.1,c.2.1≠q) (a3:∀n∈b.2.2.2.2.2,n.2≠q):(xZ (b,[(a,l),(q,l)])).2=(xZ (b,[(a,l)])).2∧∀label d,q<d→vL (b,[(a,l),(q,l)]) label d=vL (b,[(a,l)]) label d:=by
 have hnd:l.Nodup:=h.nd (a,l) (by simp);refine⟨aa8 hc hc2 (aee hnd hq1 a1 hlo a2 a3),fun label d hdq=>?_⟩;have hf:=aa9 hnd hq1 a1 hlo a2 a3 (label:=label) (d:=d) (by omega);have hn:=aa7 hnd hq1 a1 hlo a2 a3;rw[LH h,LH h'];have e1:Ps (b,[(a,l),(q,l)]) (label,d)=Ps (b,[(a,l)]) (label,d):=rfl;rw[e1];simp only[hf,hn]
def aba {m:ņ} (hn:∀g∈m.1.2.1,I64 g.2.2.2.2.1.1) (label d:Int):sj m label d=some true:=by
 unfold sj rU;rw[abo,À,sq]
 by_cases hs:Su m=true
 case neg=>rw[ej.2 hs]; rfl
 have h7:=abp hs hn;have hl6:=h7.n6;rw[hs,Ð (by rfl),Ô]
 by_cases h1:m.2.length=1
 case neg=>rw[Ú (by simp[ine]; omega)]; rfl
 rw[Ð (by simp[ine]; omega)];obtain⟨b,ms⟩:=m;obtain⟨⟨xa,xl⟩,rfl⟩:∃x,ms=[x]:=List.length_eq_one_iff.1 h1
 try dsimp only
 rw[show ∀f:Mx→Option Bool,Ĥ [(xa,xl)] (0:Int) f=f (xa,xl) from fun f=>rfl]
 try dsimp only
 rw[show ∀f:Int→Option Bool,ck (xa+1) f=f (aeb (xa+1)) from fun _=>rfl];generalize hq:aeb (xa+1)=q;have hsz:=h7.inn.size;have g1:=hsz.uses; have g2:=hsz.loans; have g3:=hsz.compares; have g4:=hsz.looks;rw[tw_L0 q g1]
 split
 ·rfl
 rename_i a1;rw[tw_L1 q g3]
 split
 ·rfl
 rename_i a2;rw[tw_L2 q g4]
 split
 ·rfl
 rename_i a3;rw[tw_L3 q g2]
 split
 ·rfl
 rename_i a4;have hx9:=h7.l9 (xa,xl) (by simp);rw[afI h7.inn (by simp) (by dsimp only at hx9 ⊢; omega),À]
 by_cases hw:(Zk (b,[(xa,xl)]) (q,xl)).2=0
 case neg=>rw[Ú (by simp[ine,hw])]; rfl
 rw[Ð (by simp[ine,hw])];unfold Zk at hw ⊢
 split at hw
 ·rename_i e; exact absurd hw e
 rename_i hc
 split at hw
 ·rename_i e; exact absurd hw e
 rename_i hc2;rw[if_neg hc,if_neg hc2];have h:MOk (b,[(xa,xl)]):=(ĩ _).1 (by simpa using hc);have h':MOk (ad9 (b,[(xa,xl)]) (q,xl)):=(ĩ _).1 (by simpa using hc2);have hday:=(h.mix (x:=(xa,xl)) (by simp)).day
 have hq1:q=xa+1:=by rw[←hq,aaW (by omega) (by omega)]
 have hnd:xl.Nodup:=h.nd (xa,xl) (by simp);simp only[dj,not_exists,not_and,beq_iff_eq,cI,decide_eq_true_eq] at a1 a2 a3 a4;rw[aaW (by omega) (by omega)] at a4
 have hlo:∀l∈b.2.2.2.1,l.2.1.1≠q:=fun l hl e=>by
  have e':(l.2.1.1:Int)=q:=e;have h0:(l.2.1.1:Int)≤l.2.1.2:=(oU h.good hl).1.2.1
  have h1:(l.2.1.1:Int)≤q+1:=by rw[e']; exact Int.le_of_lt (Int.lt_add_one_of_le (dK q))
  have h2:(q:Int)≤l.2.1.2:=by rw[←e']; exact h0
  exact a4 l hl h1 h2
 have hadd:ad9 (b,[(xa,xl)]) (q,xl)=(b,[(xa,xl),(q,xl)]):=rfl;rw[hadd] at hc2 h' ⊢;obtain⟨k2,hcd⟩:=Zt hc hc2 h h' hq1 a1 hlo a2 a3;have hI':In ((b,[(xa,xl),(q,xl)]):ņ).1:=h7.inn;rw[Ma h7.inn (by simp),À];dsimp only;rw[Ma hI' (by simp),À,k2,Ð (by simp[ine])]
 by_cases hdq:d≤q
 case pos=>rw[Ú (decide_eq_true hdq)]; rfl
 rw[Ð (decide_eq_false hdq),Md h7.inn (by simp),À,Md hI' (by simp),À];rw[hcd label d (by omega),Ð (by simp[ine]),Ð (by simp[ine])]
 have hcl:(vL (b,[(xa,xl)]) label d).1.length≤1000:=by
  have hG:=h.good.nG;rw[LH h]
  split
  ·simp
  split
  ·simp
  split
  ·simp
  exact Nat.le_trans (List.length_filterMap_le _ _) (by dsimp only at hG ⊢; omega)
 refine acd (vL (b,[(xa,xl)]) label d).1 _ (fun i a hi ha kn=>?_) (fun kn=>?_)
 ·try dsimp only
  unfold je;rw[Ï hi,È ha,È ha,Ð (by simp[yk]),Ë hi (by omega)]
 ·try dsimp only
  unfold je;rw[Ý]; rfl
end Go.Proofs.ZzM
end
