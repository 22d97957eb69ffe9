/- lemmas -/
import Derived.Test.YtdmegkgjpgcfgaaGreatPlA
import Derived.Test.YtdmegkgjpgcfgaaGreatMdTA
set_option linter.all false
set_option linter.unusedSectionVars false
set_option linter.unusedVariables false
set_option linter.unusedSimpArgs false
noncomputable section
namespace Go.Proofs.ZzM
open Go Go.Am
section
variable {ρ:Type}
def E9 {α σ:Type} (l:List α) (g:Nat→σ) (r:Option ρ) {f:σ×Int→(σ×Int→Option ρ)→Option ρ} {s0:σ} (P:Nat→Prop) (h0:g 0=s0) (hP:P 0)
 (h:∀(i:Nat) (a:α),i<l.length→l[i]?=some a→P i→∀kn,f (g i,i) kn=r∨(P (i+1)∧f (g i,i) kn=kn (g (i+1),(i:Int)+1)))
 (hn:P l.length→∀kn,f (g l.length,l.length) kn=r):Ê f (s0,0)=r:=by
 subst h0;refine sX (F:=fun _=>r) (fun x=>∃i:Nat,i≤l.length∧x=(g i,(i:Int))∧P i) (fun x=>l.length-x.2.toNat) (fun x hx kn hk=>?_) ⟨0,dI _,rfl,hP⟩;obtain⟨i,hi,rfl,hp⟩:=hx;rcases cV i l.length with hlt|hge
 ·rcases h i _ hlt (cw hlt) hp kn with h1|⟨h1,h2⟩
  ·exact h1
  ·rw[h2,hk _ ⟨i+1,hlt,by simp,h1⟩ (by simp; omega)]
 ·have:i=l.length:=by omega
  subst this;exact hn hp kn
def Xt {l:List Int} {f:Int→(Int→Option ρ)→Option ρ} {K k1:Option ρ} (h:∀(i:Nat) (a b:Int),l[i]?=some a→l[i+1]?=some b→∀kn,f ((i:Int)+1) kn=if b≤a then K else kn ((i:Int)+1+1))
 (hn:∀n:Nat,l.length≤n→∀kn,f n kn=k1):Ê f 1=if l.Pairwise (·<·) then k1 else K:=by
 have hb:=HO (fun x:Int=>x) l;refine Ę (fun x=>∃i:Nat,x=(i:Int)+1∧∀j a,j≤i→l[j]?=some a→tr (fun x=>x) l j a=false) (fun x=>l.length-x.toNat) ?_ ⟨0,rfl,fun j a hj _=>?_⟩
 ·rintro x ⟨i,rfl,hi⟩;rcases cV (i+1) l.length with hlt|hge
  ·have ha:l[i]?=some l[i]:=cw (by omega);have hc:l[i+1]?=some l[i+1]:=cw hlt
   by_cases hle:l[i+1]≤l[i]
   ·refine .inl fun kn=>?_;rw[h i _ _ ha hc,if_pos hle,if_neg];intro hp;have:=hb.2 hp (i+1) _ hc;simp[tr,ha,hle] at this
   ·refine .inr ⟨(i:Int)+1+1,⟨i+1,by simp,fun j a hj hja=>?_⟩,by omega,fun kn=>by rw[h i _ _ ha hc,if_neg hle]⟩;rcases cV i j with h1|h1
    ·have:j=i+1:=by omega
     subst this;rw[hc] at hja; cases hja;simp[tr,ha]; omega
    ·exact hi j a h1 hja
  ·refine .inl fun kn=>?_;have:=hn (i+1) hge kn;simp only[Int.natCast_add,Int.cast_ofNat_Int] at this;rw[this,if_pos];refine hb.1 fun j a hj=>hi j a ?_ hj;have:=(cB.1 hj).1;omega
 ·have:j=0:=by omega
  subst this; simp[tr]
end
def mixE (b:ġ) (l:List Mx) (i:Nat) (x:Mx):Int :=
 if !(inP x.1 0 19999&&inP x.2.length 2 5) then 1 else
 if ¬x.2.Pairwise (·<·) then 1 else
 if x.2.any (fun g=>(Ĉ b g).isNone) then 5 else
 if x.2.any (fun g=>FM b g x.1 != 0) then 4 else
 if tr (fun y=>y.1) l i x then 6 else
 if x.2.any (fun g=>(kZ b g x.1).isSome||(kZ b g (x.1+1)).isSome) then 9 else 0
def V7:Nat→Nat
 |0=>1
 |n+1=>V7 n*(n+1)
def vN:List Mx→Nat
 |[]=>1
 |x::r=>V7 x.2.length*vN r
def Ng:∀{l:List Mx} {i:Nat} {x:Mx},l[i]?=some x→vN (l.take (i+1))=vN (l.take i)*V7 x.2.length
 |[],_,_,h=>by simp at h
 |y::l,0,x,h=>by simp at h; subst h; simp[vN]
 |y::l,i+1,x,h=>by
  simp only[fi] at h;simp only[gg,vN,Ng h,Nat.mul_assoc]
def abJ:∀{n:Nat},n≤5→V7 n≤120
 |0,_|1,_|2,_|3,_|4,_|5,_=>by decide
 |n+6,h=>by omega
def Xa:∀{l:List Mx} {n:Nat},l.length≤n→(∀x∈l,x.2.length≤5)→vN l≤120 ^ n
 |[],n,_,_=>Nat.one_le_pow _ _ (by decide)
 |x::l,0,h,_=>by simp at h
 |x::l,n+1,h,hl=>by
  have h1:=Xa (l:=l) (n:=n) (by simpa using h) fun y hy=>hl y (df _ hy);have h2:=abJ (hl x (by simp));rw[vN,Nat.pow_succ,Nat.mul_comm];exact fJ h1 h2
def Nz (b:ġ) (l:List Mx):Option Int:=ł (fun i x=>Zh (mixE b l i x)) 0 l
def Ļ (m:œ):Int :=
 if ű m.1≠0 then ű m.1 else if 4<m.2.length then 2 else match Nz m.1 m.2 with
 |some e=>e
 |none=>if 150<vN m.2 then 2 else 0
def Ix (l:List ý):List (Int×Int):=l.foldl (fun m g=>Ny (k:=tI) (v:=tI) g.1 g.2.1 m) []
def NA (x y n:Int):∀m:List (Int×Int),pV (k:=tI) (v:=tI) x (Ny (k:=tI) (v:=tI) y n m)=if x=y then some n else pV (k:=tI) (v:=tI) x m
 |[]=>by
  unfold Ny pV iY pV
  by_cases h:x=y<;>simp[h]
 |e::m=>by
  unfold Ny
  by_cases h:y=e.1
  ·have:iY tI y e.1=true:=by simp[iY,h]
   rw[this];simp only;unfold pV
   by_cases hx:x=y
   ·subst hx; simp[iY]
   ·have:iY tI x y=false:=by simp[iY,hx]
    have h2:iY tI x e.1=false:=by simp[iY,←h,hx]
    rw[this,if_neg hx];simp only[h2]
  ·have:iY tI y e.1=false:=by simp[iY,h]
   rw[this];simp only;unfold pV
   by_cases hx:x=e.1
   ·subst hx;rw[if_neg (fun e=>h e.symm)];simp[iY]
   ·have h2:iY tI x e.1=false:=by simp[iY,hx]
    rw[h2];exact NA x y n m
def YS (x:Int) (l:List ý):pV (k:=tI) (v:=tI) x (Ix l)=(l.reverse.find? fun g=>g.1==x).map fun g=>g.2.1:=by
 have key:∀r:List ý,pV (k:=tI) (v:=tI) x (Ix r.reverse)=(r.find? fun g=>g.1==x).map fun g=>g.2.1:=by
  intro r
  induction r with
  |nil=>rfl
  |cons g r ih =>
   rw[List.reverse_cons,Ix,List.foldl_append];simp only[fQ,List.foldl_nil];rw[NA,fB]
   by_cases h:x=g.1
   ·subst h; simp
   ·have:(g.1==x)=false:=by simp; exact fun e=>h e.symm
    rw[if_neg h,this];exact ih
 have:=key l.reverse
 rwa [List.reverse_reverse] at this
def aaV {b:ġ} (h:b.2.1.Pairwise fun a b=>a.1<b.1) (x:Int):pV (k:=tI) (v:=tI) x (Ix b.2.1)=(Ĉ b x).map fun g=>g.2.1:=by
 rw[YS,Gi h]; rfl
def TK {ρ:Type} {b:ġ} (h:b.2.1.Pairwise fun a b=>a.1<b.1) (x:Int) (f:Int→Option ρ) (g:Option ρ):Lq (k:=tI) (v:=tI) x (Ix b.2.1) f g=match Ĉ b x with|some y=>f y.2.1|none=>g:=by
 unfold Lq;rw[aaV h]
 cases Ĉ b x<;>rfl
section
variable {ρ:Type} {b:ġ}
def mix_L0 {l:List Int} (hl:l.length≤1000) (k0:Int→Option ρ) (k1:Unit→Option ρ):Ê (fun(v:Int) kk=>mC l v (fun u=>kk u) k0 k1) 1=if l.Pairwise (·<·) then k1 () else k0 1:=by
 refine Xt (fun i a c ha hc kn=>?_) (fun n hn kn=>?_)
 ·have hi:=(List.getElem?_eq_some_iff.1 hc).1;unfold mC
  have e:((i:Int)+1)=((i+1:Nat):Int):=by omega
  rw[e,Ò hi,È hc,Ó (by omega) (by omega),←e,Int.add_sub_cancel,È ha,Đ,Ó (by omega) (by omega)];simp
 ·unfold mC;rw[Î (by simp[ilt,Ñ]; omega)]
def mix_L1 (hn:b.2.1.length≤1000) (k0:List (Int×Int)→Option ρ):Ê (fun(v:Int×List (Int×Int)) kk=>mB b.2.1 (Ø b.2.1) v.1 v.2 (fun u v=>kk (u,v)) k0) ((0:Int),[])=k0 (Ix b.2.1):=by
 refine Ħ b.2.1 (fun i=>Ix (b.2.1.take i)) _ rfl (fun i g hi hg kn=>?_) (fun kn=>?_)
 ·try dsimp only
  unfold mB;rw[Ò hi,È hg,Ë hi (by omega)];congr 2;rw[take_succ hg,Ix,Ix,List.foldl_append];rfl
 ·try dsimp only
  unfold mB;rw[à,List.take_length]
def mix_L2 (hi:b.2.1.Pairwise fun a b=>a.1<b.1) {l:List Int} (hl:l.length≤1000) (X Y Z:Option ρ):Ê (fun(v:Int) kk=>mA l (Ø l) (Ix b.2.1) v (fun u=>kk u) (fun z=>ifb (ige z (0:Int)) X Y) (fun _=>Z)) 0=if l.any (fun g=>(Ĉ b g).isNone) then X else Z:=by
 refine ş l _ (fun z=>ifb (ige z (0:Int)) X Y) X Z (fun j=>Ú (by simp[ige]) _ _) (fun i a hia ha kn=>?_) (fun kn=>?_)
 ·unfold mA;rw[Ò hia,È ha,TK hi,Ë hia (by omega)]
  cases Ĉ b a<;>rfl
 ·unfold mA;rw[à]
def mix_L3 (hi:b.2.1.Pairwise fun a b=>a.1<b.1) {l:List Int} (hl:l.length≤1000) (hk:∀x∈l,∃g,Ĉ b x=some g) (d:Int) (X Y Z:Option ρ):Ê (fun(v:Int) kk=>jV l (Ø l) d (Ix b.2.1) v (fun u=>kk u) (fun z=>ifb (ige z (0:Int)) X Y) (fun _=>Z)) 0=if l.any (fun g=>FM b g d != 0) then X else Z:=by
 refine ş l _ (fun z=>ifb (ige z (0:Int)) X Y) X Z (fun j=>Ú (by simp[ige]) _ _) (fun i a hia ha kn=>?_) (fun kn=>?_)
 ·unfold jV;rw[Ò hia,È ha,TK hi,Ë hia (by omega)];obtain⟨g,hg⟩:=hk a (List.mem_of_getElem? ha);unfold FM;rw[hg];dsimp only;rw[Đ]
  by_cases h:d<g.2.1<;>simp[ilt,h]
 ·unfold jV;rw[à]
def mix_L4 (h:Μ b) {l:List Int} (hl:l.length≤1000) (hk:∀x∈l,∃g,Ĉ b x=some g) {d:Int} (hd:0≤d∧d<20000) (X Y Z:Option ρ):Ê (fun(v:Int) kk=>ľ l (Ø l) b.1.1 b.1.2 b.2.1 b.2.2.1 b.2.2.2.1 b.2.2.2.2.1 b.2.2.2.2.2 d v (fun u=>kk u) (fun z=>ifb (ige z (0:Int)) X Y) (fun _=>Z)) 0=if l.any (fun g=>(kZ b g d).isSome||(kZ b g (d+1)).isSome) then X else Z:=by
 refine ş l _ (fun z=>ifb (ige z (0:Int)) X Y) X Z (fun j=>Ú (by simp[ige]) _ _) (fun i a hia ha kn=>?_) (fun kn=>?_)
 ·unfold ľ;obtain⟨g,hg⟩:=hk a (List.mem_of_getElem? ha)
  have hw:∀e,0≤e→e≤20000→yj ((b.1.1,b.1.2),b.2.1,b.2.2.1,b.2.2.2.1,b.2.2.2.2.1,b.2.2.2.2.2) a e=some ((kZ b a e).isSome,0):=fun e h0 h1=>by
   rw[show(((b.1.1,b.1.2),b.2.1,b.2.2.1,b.2.2.2.1,b.2.2.2.2.1,b.2.2.2.2.2):ġ)=b from rfl,agk ⟨h.size,fun g hg=>by have:=(h.gaugeR hg).2.1; unfold I64; omega⟩]
   have:La b a [e]=0:=by
    unfold La;rw[if_neg (by simp[(χ b).2 h]),if_neg (by simp[Ob,inP,h0,h1]),xM h.ids,hg]; rfl
   unfold agl;rw[if_neg (by simp[this])]
  rw[Ò hia,È ha,hw d hd.1 (by omega),À,Ó (by omega) (by omega),hw (d+1) (by omega) (by omega),À,Ë hia (by omega)];dsimp only
  cases(kZ b a d).isSome<;>cases(kZ b a (d+1)).isSome<;>rfl
 ·unfold ľ;rw[à]
end
def adJ {b:ġ} (h:Μ b) {l:List Mx} {i:Nat} {x:Mx} (hx:l[i]?=some x) (hn:i≤1000):Dz b l i=some (mixE b l i x):=by
 unfold Dz I2 mixE;rw[È hx]
 by_cases h1:inP x.1 0 19999=true∧inP (x.2.length:Int) 2 5=true
 ·obtain⟨h1,h2⟩:=h1;rw[if_neg (by simp[h1,h2])];simp only[inP,cA,decide_eq_true_eq] at h1 h2
  have hl:x.2.length≤1000:=by omega
  rw[Î (by simp[ilt]; omega),Î (by simp[ige]; omega),Î (by simp[ilt,Ñ]; omega),Î (by simp[igt,Ñ]; omega),mix_L0 hl]
  by_cases h3:x.2.Pairwise (·<·)
  ·rw[if_pos h3,if_neg (by simpa using h3)]
   try dsimp only
   rw[mix_L1 (by have:=h.nG; omega),mix_L2 h.ids hl]
   by_cases h4:(x.2.any fun g=>(Ĉ b g).isNone)=true
   ·rw[if_pos h4,if_pos h4]
   ·have hk:∀y∈x.2,∃g,Ĉ b y=some g:=fun y hy=>by
     simp only[dg,not_exists,not_and,Option.isNone_iff_eq_none] at h4;exact Option.ne_none_iff_exists'.1 (h4 y hy)
    rw[if_neg h4,if_neg h4,mix_L3 h.ids hl hk]
    by_cases h5:(x.2.any fun g=>FM b g x.1 != 0)=true
    ·rw[if_pos h5,if_pos h5]
    ·rw[if_neg h5,if_neg h5,mix_L4 h hl hk (by omega)]
     cases i with
     |zero =>
      rw[Î (by simp[igt]),if_neg (show ¬tr (fun y:Mx=>y.1) l 0 x=true by simp[tr])]
      split<;>rfl
     |succ i =>
      obtain⟨hi,_⟩:=cB.1 hx;have hy:l[i]?=some l[i]:=cw (by omega)
      have e:((i+1:Nat):Int)-1=i:=by omega
      rw[Ú (by simp[igt]),Ó (by omega) (by omega),e,È hy,Đ];unfold tr;simp only[Nat.add_sub_cancel,hy,Option.any_some,Nat.succ_pos,decide_true,Bool.true_and,ile,decide_eq_true_eq]
      split
      ·rfl
      ·split<;>rfl
  ·rw[if_neg h3,if_pos h3]
 ·rw[if_pos (by simp only[dS]; cases h2:inP x.1 0 19999<;>cases h3:inP (x.2.length:Int) 2 5<;>simp_all)]
  simp only[inP,cA,decide_eq_true_eq,not_and,Int.not_le] at h1;simp only[Đ,ilt,ige,igt,Ñ,decide_eq_true_eq]
  split
  ·rfl
  split
  ·rfl
  split
  ·rfl
  rw[if_pos (by have:=h1 (by omega); omega)]
def Xr {b:ġ} {l:List Mx} {i:Nat} {x:Mx} (h:mixE b l i x=0):x.2.length≤5:=by
 unfold mixE at h
 split at h
 ·cases h
 ·rename_i h1;simp[inP] at h1;omega
def adV {n v:Nat} (hn:n≤5) (hv:v≤1000000000) {ρ:Type} (k0:Int→Option ρ):Ê (fun(u:Int×Int) kk=>mD (YO n) u.1 u.2 (fun a b=>kk (a,b)) k0) ((v:Int),(0:Int))=k0 ((v*V7 n:Nat):Int):=by
 refine E9 (List.range n) (fun i=>((v*V7 i:Nat):Int)) _ (fun _=>True) (by simp[V7]) trivial (fun i a hi ha _ kn=>.inr ⟨trivial,?_⟩) (fun _ kn=>?_)
 ·rw[fE] at hi
  try dsimp only
  unfold mD;have hf:=abJ (n:=i) (by omega);have hb:v*V7 i≤1000000000*120:=Nat.mul_le_mul hv hf;have h2:v*V7 i*(i+1)≤1000000000*120*6:=Nat.mul_le_mul hb (by omega)
  have e:((v*V7 i:Nat):Int)*((i:Int)+1)=((v*V7 i*(i+1):Nat):Int):=by simp
  rw[aeP hi,Ó (by omega) (by omega),e,Ó (by omega) (by omega),Ó (by omega) (by omega),V7,Nat.mul_assoc]
 ·rw[fE]
  try dsimp only
  unfold mD;rw[à]
def aaU {b:ġ} {l:List Mx} {i:Nat} {x:Mx} (hx:l[i]?=some x) (hp:∀j y,j<i→l[j]?=some y→mixE b l j y=0) (he:mixE b l i x≠0):Nz b l=some (mixE b l i x):=by
 have key:∀(m:List Mx) (k:Nat),l.drop k=m→k≤i→ł (fun i x=>Zh (mixE b l i x)) k m=some (mixE b l i x):=by
  intro m
  induction m with
  |nil =>
   intro k hk hki;have:=List.drop_eq_nil_iff.1 hk;have:=(cB.1 hx).1;omega
  |cons y m ih =>
   intro k hk hki
   have hy:l[k]?=some y:=by
    have:(l.drop k)[0]?=some y:=by rw[hk]; rfl
    simpa using this
   rw[ł];rcases cV k i with hlt|hge
   ·rw[hp k y hlt hy];simp only[Zh,if_true];refine ih (k+1) ?_ hlt;rw[←List.tail_drop,hk]; rfl
   ·have:k=i:=by omega
    subst this;rw[hx] at hy; cases hy;simp[Zh,he]
 exact key l 0 rfl (dI _)
def Ip {b:ġ} {l:List Mx} (hp:∀j y,l[j]?=some y→mixE b l j y=0):Nz b l=none:=by
 rw[Nz,iM];intro j y hy;rw[dk,hp j y hy]; rfl
def mn {m:œ} (hs:In m.1) (hn:m.2.length≤1000):ο m=some (Ļ m):=by
 unfold ο Ji Ļ;rw[yw hs.size hs.num,À]
 by_cases hc:ű m.1=0
 ·have hg:=(χ _).1 hc;rw[Î (by simp[ine,hc]),if_neg (by simp[hc])]
  by_cases h4:4<m.2.length
  ·rw[Ú (by simp[igt,Ñ]; omega),if_pos h4]
  ·rw[Î (by simp[igt,Ñ]; omega),if_neg h4];refine E9 m.2 (fun i=>((vN (m.2.take i):Nat):Int)) _ (fun i=>∀j y,j<i→m.2[j]?=some y→mixE m.1 m.2 j y=0) (by simp[vN]) (fun j y h _=>by omega) (fun i x hi hx hp kn=>?_) (fun hp kn=>?_)
   ·try dsimp only
    unfold qx;rw[Ò hi,È hx,show(((m.1.1.1,m.1.1.2),m.1.2.1,m.1.2.2.1,m.1.2.2.2.1,m.1.2.2.2.2.1,m.1.2.2.2.2.2):ġ)=m.1 from rfl,adJ hg hx (by omega),À]
    by_cases he:mixE m.1 m.2 i x=0
    ·rw[Î (by simp[ine,he])]
     have h5:∀y∈m.2.take i,y.2.length≤5:=fun y hy=>by
      obtain⟨j,hj,rfl⟩:=cM.1 hy;rw[cT] at hj;rw[eO];exact Xr (hp j _ (by omega) (cw (by omega)))
     have hb:=Xa (l:=m.2.take i) (n:=4) (by rw[cT]; omega) h5
     have hb2:(120:Nat) ^ 4=207360000:=by decide
     refine .inr ⟨fun j y hj hy=>?_,?_⟩
     ·rcases cV j i with h|h
      ·exact hp j y h hy
      ·have:j=i:=by omega
       subst this;rw[hx] at hy; cases hy;exact he
     ·rw[adV (Xr he) (by omega),Ë hi (by omega),Ng hx]
    ·refine .inl ?_;rw[Ú (by simp[ine,he]),aaU hx hp he]
   ·try dsimp only
    unfold qx;rw[à,Ip fun j y hy=>hp j y (List.getElem?_eq_some_iff.1 hy).1 hy,List.take_length];dsimp only;rw[Đ];simp only[igt,decide_eq_true_eq]
    by_cases h:150<vN m.2
    ·rw[if_pos (by omega),if_pos h]
    ·rw[if_neg (by omega),if_neg h]
 ·rw[Ú (by simp[ine,hc]),if_pos hc]
def Ry {α:Type} [DecidableEq α] {l m:List α} (hl:l.length=m.length) (h:ł (fun i a=>if m[i]?=some a then none else some false) 0 l=none):l=m:=by
 have:=iM.1 h;refine List.ext_getElem hl fun i h1 h2=>?_;have h3:=this i l[i] (cw h1);rw[dk] at h3
 split at h3
 ·rename_i h4;rw[cw h2] at h4;exact(Option.some.inj h4).symm
 ·cases h3
def Rx {α:Type} [DecidableEq α] {l m:List α} {b:Bool} (h:ł (fun i a=>if m[i]?=some a then none else some false) 0 l=some b):b=false∧l≠m:=by
 constructor
 ·have:∀(k:Nat) (x:List α) (b:Bool),ł (fun i a=>if m[i]?=some a then none else some false) k x=some b→b=false:=by
   intro k x
   induction x generalizing k with
   |nil=>intro b h; cases h
   |cons a t ih =>
    intro b h;unfold ł at h
    split at h
    ·rename_i c hc
     split at hc
     ·cases hc
     ·cases hc; cases h; rfl
    ·exact ih _ _ h
  exact this _ _ _ h
 ·intro e;subst e;rw[iM.2 fun j a ha=>by rw[dk,if_pos ha]] at h;cases h
def Lh {l m:List Int} (hn:l.length≤1000000):i7 l m=some (decide (l=m)):=by
 unfold i7 tZ;rw[Ñ,Ñ]
 by_cases hl:l.length=m.length
 ·rw[Î (by simp[ine,hl])];refine eo (lU l (fun i a=>if m[i]?=some a then none else some false) some (some true) (fun i a hi ha kn=>?_) (fun kn=>?_)) ?_
  ·try dsimp only
   unfold jH;have hm:m[i]?=some m[i]:=List.getElem?_eq_getElem (by omega);rw[Ò hi,È ha,È hm,Ë hi (by omega),hm,Đ]
   by_cases h:a=m[i]
   ·simp[ine,h]
   ·have h':¬m[i]=a:=fun e=>h e.symm;simp[ine,h,h']
  ·try dsimp only
   unfold jH;rw[à]
  ·cases h:ł (fun i a=>if m[i]?=some a then none else some false) 0 l with
   |none=>simp[Ry hl h]
   |some b =>
    obtain⟨h1,h2⟩:=Rx h;simp[h1,h2]
 ·rw[Ú (by simp[ine]; omega)];have:l≠m:=fun e=>hl (by rw[e]);simp[this]
structure MixOk (b:ġ) (x:Mx):Prop where
 day:0≤x.1∧x.1<20000
 len:2≤x.2.length∧x.2.length≤5
 asc:x.2.Pairwise (·<·)
 known:∀l∈x.2,∃g,Ĉ b l=some g∧g.2.1≤x.1
 home:∀l∈x.2,kZ b l x.1=none∧kZ b l (x.1+1)=none
def Sk {b:ġ} {l:List Mx} {i:Nat} {x:Mx} (h:mixE b l i x=0):MixOk b x∧tr (fun y=>y.1) l i x=false:=by
 unfold mixE at h
 split at h
 ·cases h
 rename_i h1
 split at h
 ·cases h
 rename_i h2
 split at h
 ·cases h
 rename_i h3
 split at h
 ·cases h
 rename_i h4
 split at h
 ·cases h
 rename_i h5
 split at h
 ·cases h
 rename_i h6;simp only[inP,Bool.not_eq_true',Bool.and_eq_false_iff,not_or,Bool.not_eq_false,decide_eq_false_iff_not,Int.not_le,Bool.and_eq_true,decide_eq_true_eq] at h1;simp only[List.any_eq_true,not_exists,not_and,Option.isNone_iff_eq_none] at h3;simp only[List.any_eq_true,not_exists,not_and,bne_iff_ne,ne_eq,Decidable.not_not] at h4;simp only[List.any_eq_true,not_exists,not_and,Bool.or_eq_true,not_or,Option.isSome_iff_ne_none,ne_eq,Decidable.not_not] at h6;refine⟨⟨by omega,by omega,Decidable.not_not.1 h2,fun y hy=>?_,h6⟩,by simpa using h5⟩;obtain⟨g,hg⟩:=Option.ne_none_iff_exists'.1 (h3 y hy);refine⟨g,hg,?_⟩;have:=h4 y hy;unfold FM at this;rw[hg] at this;dsimp only at this
 split at this
 ·cases this
 ·omega
structure MOk (m:œ):Prop where
 good:Μ m.1
 n4:m.2.length≤4
 mixE:∀i x,m.2[i]?=some x→mixE m.1 m.2 i x=0
 prod:vN m.2≤150
def ň (m:œ):Ļ m=0↔MOk m:=by
 unfold Ļ;constructor
 ·intro h
  split at h
  ·rename_i h1; exact absurd h h1
  rename_i h1
  split at h
  ·cases h
  rename_i h2
  cases hm:Nz m.1 m.2 with
  |some e =>
   rw[hm] at h;dsimp only at h;rw[Nz] at hm
   have key:∀(l:List Mx) (k:Nat) (e:Int),ł (fun i x=>Zh (mixE m.1 m.2 i x)) k l=some e→e≠0:=by
    intro l
    induction l with
    |nil=>intro k e h; cases h
    |cons y l ih =>
     intro k e h;rw[ł] at h
     by_cases hz:mixE m.1 m.2 k y=0
     ·rw[hz] at h;exact ih (k+1) e h
     ·simp only[Zh,if_neg hz,Option.some.injEq] at h;rw[←h]; exact hz
   exact absurd h (key _ _ _ hm)
  |none =>
   rw[hm] at h;dsimp only at h
   split at h
   ·cases h
   rename_i h3;refine⟨(χ _).1 (Decidable.not_not.1 h1),by omega,fun i x hx=>?_,by omega⟩;have:=(iM.1 hm) i x hx;rw[Nat.zero_add] at this;unfold Zh at this
   split at this
   ·assumption
   ·cases this
 ·intro h;rw[if_neg (by simp[(χ _).2 h.good]),if_neg (by have:=h.n4; omega),Ip h.mixE];dsimp only;rw[if_neg (by have:=h.prod; omega)]
section
variable {m:œ}
def MOk.mix (h:MOk m) {x:Mx} (hx:x∈m.2):MixOk m.1 x:=by
 obtain⟨i,hi,rfl⟩:=cM.1 hx;exact(Sk (h.mixE i _ (cw hi))).1
def MOk.days (h:MOk m):m.2.Pairwise fun a b=>a.1<b.1:=(HO (fun y:Mx=>y.1) m.2).1 fun i x hx=>(Sk (h.mixE i x hx)).2
def MOk.len5 (h:MOk m):∀x∈m.2,x.2.length≤5:=fun x hx=>(h.mix hx).len.2
def MOk.in_ (h:MOk m):In m.1:=⟨h.good.size,fun g hg=>by have:=(h.good.gaugeR hg).2.1; unfold I64; omega⟩
end
def OG {l:List Int} {i:Nat} (hi:i<l.length):(l[i]::(l.take i++l.drop (i+1))).Perm l:=by
 have h:l=l.take i++l[i]::l.drop (i+1):=by rw[←dt hi,dH]
 exact List.Perm.trans (List.perm_middle.symm) (by rw[←h])
def Hw:∀{n:Nat} {l x:List Int},l.length=n→(x∈Ei n l↔x.Perm l)
 |0,l,x,h=>by
  have:l=[]:=cP.1 h;subst this;simp[Ei]
 |n+1,l,x,h=>by
  rw[Ei,if_neg (by omega)];simp only[dj,fp,cX];constructor
  ·rintro⟨i,hi,y,hy,rfl⟩;have hy:=(Hw (n:=n) (by simp; omega)).1 hy;rw[dR,cw hi];exact(hy.cons _).trans (OG hi)
  ·intro hp
   cases x with
   |nil=>have:=hp.length_eq; simp at this; omega
   |cons a x =>
    have ha:a∈l:=hp.subset (by simp);obtain⟨i,hi,rfl⟩:=cM.1 ha;refine⟨i,hi,x,(Hw (n:=n) (by simp; omega)).2 ?_,by rw[dR,cw hi]; rfl⟩;exact List.Perm.cons_inv (hp.trans (OG hi).symm)
def Qz {α β:Type} (f:α→List β) (n:Nat):∀l:List α,(∀a∈l,(f a).length=n)→(l.flatMap f).length=l.length*n
 |[],_=>by simp
 |a::l,h=>by
  rw[du,cD,h a (by simp),Qz f n l fun b hb=>h b (df _ hb),cN,Nat.succ_mul]; omega
def Xo:∀{n:Nat} {l:List Int},l.length=n→(Ei n l).length=V7 n
 |0,_,_=>rfl
 |n+1,l,h=>by
  rw[Ei,if_neg (by omega),Qz _ (V7 n) _ fun i hi=>by rw[dv]; exact Xo (by simp at hi ⊢; omega),fE,V7,h,Nat.mul_comm]
def DL:∀{ms:List Mx} {w:Way},w∈iw ms↔ĵ ms w
 |[],[]=>by simp[iw,ĵ]
 |[],_::_=>by simp[iw,ĵ]
 |m::ms,[]=>by simp[iw,ĵ]
 |m::ms,l::ls=>by
  simp only[iw,dj,cX,ĵ];constructor
  ·rintro⟨x,hx,y,hy,e⟩;cases e;exact⟨(Hw rfl).1 hx,DL.1 hy⟩
  ·intro⟨h1,h2⟩;exact⟨l,(Hw rfl).2 h1,ls,DL.2 h2,rfl⟩
def KP:∀ms:List Mx,(iw ms).length=vN ms
 |[]=>rfl
 |m::ms=>by rw[iw,Qz _ (vN ms) _ fun x _=>by rw[dv,KP],Xo rfl,vN]
def Ċ (ms:List Mx):List Way:=Į (yx ms) (iw ms)
def Y9 {α:Type} {k k':α→Int} {x:α} {l:List α} (hx:k x=k' x) (h:∀y∈l,k y=k' y):Za k x l=Za k' x l:=by
 induction l with
 |nil=>rfl
 |cons y l ih =>
  unfold Za;rw[hx,h y (by simp),ih fun z hz=>h z (List.mem_cons_of_mem _ hz)]
def Kg {α:Type} {k k':α→Int}:∀{l:List α},(∀y∈l,k y=k' y)→Į k l=Į k' l
 |[],_=>rfl
 |x::l,h=>by
  have hl:=Kg fun y hy=>h y (df x hy);show Za k x (Į k l)=Za k' x (Į k' l);rw[hl];exact Y9 (h x (by simp)) fun y hy=>h y (df _ ((Ķ (key:=k') l).mem.1 hy))
def mo {ms:List Mx} {w:Way}:w∈Ċ ms↔ĵ ms w:=by
 rw[Ċ,(Ķ (iw ms)).mem,DL]
def ZX (ms:List Mx):(Ċ ms).length=vN ms:=by rw[Ċ,(Ķ (iw ms)).length,KP]
section
variable {m:œ} {ρ:Type}
def MOk.wgt (h:MOk m) {w:Way} (hw:ĵ m.2 w):ĩ m w=some (yx m.2 w) :=
 ZW hw (by have:=h.n4; omega) fun x hx=>by have:=h.len5 x hx; omega
def HH {α:Type} {f:List α→α→(List α→Option ρ)→Option ρ} (h:∀v y kn,v.length≤1000000→f v y kn=kn (v++[y])):∀{xs:List α} {v:List α} {K:List α→Option ρ},v.length+xs.length≤1000000→xn f xs v K=K (v++xs)
 |[],v,K,_=>by simp[xn]
 |x::xs,v,K,hl=>by
  simp only[cN] at hl;rw[xn,h v x _ (by omega),HH h (by simp; omega)]; simp
def ab3 (h:MOk m):lW m.2=some (iw m.2):=by
 unfold lW;rw[ď];simp only[Bool.and_eq_true,decide_eq_true_eq,List.all_eq_true];exact⟨by have:=h.n4; omega,fun x hx=>by have:=h.len5 x hx; omega⟩
def QJ (h:MOk m):(iw m.2).length≤150:=by rw[KP]; exact h.prod
def Rr (h:MOk m):Ī (iw m.2) (Ø (iw m.2)) m=some (Ċ m.2,m):=by
 have h2:∀w∈iw m.2,ĩ m w=some (yx m.2 w):=fun w hw=>h.wgt (DL.1 hw)
 have h3:∀w∈iw m.2,đ m w=yx m.2 w:=fun w hw=>by unfold đ; rw[h2 w hw]; rfl
 rw[Ñ,aac (fun w hw=>by rw[h2 w hw,h3 w hw]) (by have:=QJ h; omega),Kg h3]; rfl
def HS (h:MOk m):qT m=some (Ċ m.2):=by
 unfold qT O5;have hl:=QJ h;rw[ab3 h,À,HH (fun v y kn hv=>by unfold Ar; rw[ď (Ù (by simp; omega))]) (by simp; omega),List.nil_append,Rr h];rfl
def acM (hs:In m.1) (hn:m.2.length≤1000):DB m=some (if Ļ m≠0 then([],Ļ m) else(Ċ m.2,0)):=by
 unfold DB Ph;rw[mn hs hn,À]
 by_cases hc:Ļ m=0
 ·rw[Î (by simp[ine,hc]),if_neg (by simp[hc]),HS ((ň m).1 hc)]; rfl
 ·rw[Ú (by simp[ine,hc]),if_pos hc]
end
def Xu {ρ:Type} (n:Nat) (p:Nat→Bool) (K0 K1:Option ρ) {f:Int→(Int→Option ρ)→Option ρ} (h:∀i:Nat,i<n→∀kn,f i kn=if p i then kn ((i:Int)+1) else K0) (hn:∀kn,f n kn=K1):Ê f 0=if (List.range n).all p then K1 else K0:=by
 have:=ş (List.range n) (fun i=>!p i) (fun _=>K0) K0 K1 (f:=f) (fun _=>rfl) (fun i a hi ha kn=>by
  obtain⟨_,rfl⟩:=cB.1 ha;rw[fE] at hi;rw[h i hi kn,List.getElem_range]
  cases p i<;>rfl) (fun kn=>by rw[fE]; exact hn kn)
 rw[this]
 have e:(List.range n).any (fun i=>!p i)=!(List.range n).all p:=by rw[List.all_eq_not_any_not]; simp
 rw[e]
 cases(List.range n).all p<;>rfl
def qQ:List Mx→Way→Bool
 |[],[]=>true
 |m::ms,l::ls=>decide (kH l=m.2)&&qQ ms ls
 |_,_=>false
def NV:∀{ms:List Mx} {w:Way},(∀x∈ms,x.2.Pairwise (·<·))→(qQ ms w=true↔ĵ ms w)
 |[],[],_=>by simp[qQ,ĵ]
 |[],_::_,_=>by simp[qQ,ĵ]
 |_::_,[],_=>by simp[qQ,ĵ]
 |m::ms,l::ls,h=>by
  rw[qQ,ĵ,cA,decide_eq_true_eq,NV fun x hx=>h x (df _ hx)];have hm:=h m (by simp);refine and_congr ⟨fun e=>by rw[←e]; exact(ķ l).symm,fun e=>?_⟩ Iff.rfl;exact gu (fun a b _ _ h1 h2=>Int.le_antisymm h1 h2) (iZ l) (hm.imp fun h=>Int.le_of_lt h) ((ķ l).trans e)
def abo {ms:List Mx} {w:Way} (hl:w.length=ms.length):qQ ms w=(List.range ms.length).all fun i=>match ms[i]?,w[i]? with|some m,some l=>decide (kH l=m.2)|_,_=>false:=by
 induction ms generalizing w with
 |nil =>
  have:w=[]:=cP.1 hl;subst this; rfl
 |cons m ms ih =>
  cases w with
  |nil=>simp at hl
  |cons l w =>
   rw[qQ,ih (by simpa using hl),cN,List.range_succ_eq_map,fg,List.all_map];rfl
def row_eq {l m:List Int} (hl:l.length=m.length) (hm:m.length≤5):(l.getD 0 0=m.getD 0 0∧l.getD 1 0=m.getD 1 0∧l.getD 2 0=m.getD 2 0∧l.getD 3 0=m.getD 3 0∧l.getD 4 0=m.getD 4 0)↔l=m:=by
 constructor
 ·intro⟨h0,h1,h2,h3,h4⟩;refine List.ext_getElem hl fun i hi hi'=>?_
  have e:∀k:Nat,l.getD k 0=m.getD k 0→k=i→l[i]=m[i]:=fun k hk e=>by
   subst e;simpa[dR,cw hi,cw hi'] using hk
  have:i=0∨i=1∨i=2∨i=3∨i=4:=by omega
  rcases this with h|h|h|h|h
  ·exact e 0 h0 h.symm
  ·exact e 1 h1 h.symm
  ·exact e 2 h2 h.symm
  ·exact e 3 h3 h.symm
  ·exact e 4 h4 h.symm
 ·rintro rfl; simp
def adI {m:œ} (h:MOk m) {w:Way} (hw:∀l∈w,l.length≤100000):Dy m w=some (qQ m.2 w):=by
 unfold Dy IW;have hn:=h.n4
 by_cases hl:w.length=m.2.length
 ·rw[Î (by simp[ine,Ñ]; omega),abo hl];have hp:∀i,i<m.2.length→∃x l,m.2[i]?=some x∧w[i]?=some l:=fun i hi=>⟨_,_,cw hi,cw (by omega)⟩;refine eo (Xu m.2.length (fun i=>match m.2[i]?,w[i]? with|some m,some l=>decide (kH l=m.2)|_,_=>false) (some false) (some true) (fun i hi kn=>?_) (fun kn=>?_)) ?_
  ·obtain⟨x,l,hx,hwl⟩:=hp i hi
   try dsimp only
   unfold qn;have hx5:=h.len5 x (List.mem_of_getElem? hx);have hl1:=hw l (List.mem_of_getElem? hwl);rw[Ò (by omega),È hwl,È hx,hx,hwl];dsimp only
   by_cases hll:l.length=x.2.length
   ·rw[Î (by simp[ine,Ñ]; omega)];unfold xX;rw[ď (Ù (by omega)),À,HH (fun v y kn hv=>by unfold wq; rw[ď (Ù (by simp; omega))]) (by simp; omega),List.nil_append,ď (Ù (by omega))];unfold Dx;rw[À,À,Ow];have hr:=row_eq (l:=kH l) (m:=x.2) (by rw[(ķ l).length_eq]; exact hll) hx5
    by_cases he:kH l=x.2
    ·obtain⟨e0,e1,e2,e3,e4⟩:=hr.2 he;rw[e0,e1,e2,e3,e4,Î (by simp[zV]),Ó (by omega) (by omega),if_pos (by simpa using he)]
    ·rw[Ú,if_neg (by simpa using he)]
     cases hb:(!((zV ((kH l).getD 0 0) (x.2.getD 0 0))&&((zV ((kH l).getD 1 0) (x.2.getD 1 0))&&((zV ((kH l).getD 2 0) (x.2.getD 2 0))&&((zV ((kH l).getD 3 0) (x.2.getD 3 0))&&((zV ((kH l).getD 4 0) (x.2.getD 4 0))&&true)))))) with
     |true=>rfl
     |false =>
      refine absurd (hr.1 ?_) he;simpa[zV] using hb
   ·rw[Ú (by simp[ine,Ñ]; omega),if_neg];intro e;simp only[decide_eq_true_eq] at e;have:=(ķ l).length_eq;rw[e] at this;exact hll this.symm
  ·try dsimp only
   unfold qn;rw[Î (by simp[ilt,Ñ]; omega)]
  ·cases(List.range m.2.length).all (fun i=>match m.2[i]?,w[i]? with|some m,some l=>decide (kH l=m.2)|_,_=>false)<;>rfl
 ·rw[Ú (by simp[ine,Ñ]; omega)];congr 1
  symm
  clear hw
  have key:∀{ms:List Mx} {w:Way},w.length≠ms.length→qQ ms w=false:=by
   intro ms
   induction ms with
   |nil=>intro w h; cases w with|nil=>exact absurd rfl h|cons _ _=>rfl
   |cons x ms ih =>
    intro w h
    cases w with
    |nil=>rfl
    |cons l w=>rw[qQ,ih (by simpa using h),Bool.and_false]
  exact key hl
def rg (m:œ) (w:Way):Int:=if Ļ m≠0 then Ļ m else if qQ m.2 w then 0 else 1
def Lb {m:œ} (hs:In m.1) (hn:m.2.length≤1000) {w:Way} (hw:∀l∈w,l.length≤100000):tc m w=some (rg m w):=by
 unfold tc I9 rg;rw[mn hs hn,À]
 by_cases hc:Ļ m=0
 ·rw[Î (by simp[ine,hc]),if_neg (by simp[hc]),adI ((ň m).1 hc) hw,À]
  cases qQ m.2 w<;>rfl
 ·rw[Ú (by simp[ine,hc]),if_pos hc]
def pB {m:œ} {w:Way}:rg m w=0↔MOk m∧ĵ m.2 w:=by
 unfold rg
 by_cases hc:Ļ m=0
 ·have h:=(ň m).1 hc;rw[if_neg (by simp[hc])];have:=NV (w:=w) fun x hx=>(h.mix hx).asc
  cases hi:qQ m.2 w with
  |true=>simp[this.1 hi,h]
  |false =>
   exact⟨fun e=>absurd (show(1:Int)=0 from e) (by decide),fun e=>absurd (this.2 e.2) (by simp[hi])⟩
 ·rw[if_pos hc];exact⟨fun e=>absurd e hc,fun⟨e,_⟩=>absurd ((ň m).2 e) hc⟩
section
variable {ρ:Type}
def xV {α β:Type} (l:List α) (g:α→β) (K:List β→Option ρ) {f:Int×List β→(Int×List β→Option ρ)→Option ρ}
 (h:∀(i:Nat) (a:α),i<l.length→l[i]?=some a→∀(v:List β) kn,v.length=i→f (i,v) kn=kn ((i:Int)+1,v++[g a])) (hn:∀(v:List β) kn,f (l.length,v) kn=K v):Ê f (0,[])=K (l.map g):=by
 refine Ħ l (fun i=>(l.take i).map g) _ rfl (fun i a hi ha kn=>?_) (fun kn=>?_)
 ·rw[h i a hi ha _ kn (by simp; omega),take_succ ha,ff]; rfl
 ·rw[hn,fu]
end
def j7 (m:œ) (w:Way) (d:Int) (l:List Int):List Int:=kH (l.map fun x=>iy m.2 w x d)
def Q6 (m:œ) (w:Way) (c:Cmp):Cmp:=(c.1,c.2.1,j7 m w c.2.1 c.2.2.1,j7 m w c.2.1 c.2.2.2.1,c.2.2.2.2)
def trP (m:œ) (w:Way):ġ :=
 (m.1.1,m.1.2.1,m.1.2.2.1.map (fun u=>(iy m.2 w u.1 u.2,u.2)),m.1.2.2.2.1.map (fun l=>(iy m.2 w l.1 l.2.1.1,l.2)),m.1.2.2.2.2.1.map (Q6 m w),m.1.2.2.2.2.2.map (fun n=>(iy m.2 w n.1 n.2,n.2)))
section
variable {ρ:Type} {m:œ} {w:Way}
def MOk.who (h:MOk m) (hw:ĵ m.2 w) (x d:Int):rJ m w x d=some (iy m.2 w x d) :=
 who_ok hw (by have:=h.n4; omega) (fun y hy=>by have:=h.len5 y hy; omega) x d
def tr_L0 (h:MOk m) (hw:ĵ m.2 w) (k0:List (Int×Int)→Option ρ):Ê (fun(v:Int×List (Int×Int)) kk=>jE m w m.1.2.2.1 (Ø m.1.2.2.1) v.1 v.2 (fun a b=>kk (a,b)) k0) ((0:Int),[])=k0 (m.1.2.2.1.map fun u=>(iy m.2 w u.1 u.2,u.2)):=by
 have hn:=h.good.nU
 refine xV m.1.2.2.1 (fun u:Int×Int=>((iy m.2 w u.1 u.2,u.2):Int×Int)) k0 (fun i a hi ha v kn hv=>?_) (fun v kn=>?_)<;>(try dsimp only)<;>unfold jE
 ·rw[Ò hi,È ha,h.who hw,À,ď (Ù (by simp; omega)),Ë hi (by omega)]
 ·rw[à]
def tr_L1 (h:MOk m) (hw:ĵ m.2 w) (k0:List Li→Option ρ):Ê (fun(v:Int×List Li) kk=>jD m w m.1.2.2.2.1 (Ø m.1.2.2.2.1) v.1 v.2 (fun a b=>kk (a,b)) k0) ((0:Int),[])=k0 (m.1.2.2.2.1.map fun l=>(iy m.2 w l.1 l.2.1.1,l.2)):=by
 have hn:=h.good.nL
 refine xV m.1.2.2.2.1 (fun l:Li=>((iy m.2 w l.1 l.2.1.1,l.2):Li)) k0 (fun i a hi ha v kn hv=>?_) (fun v kn=>?_)<;>(try dsimp only)<;>unfold jD
 ·rw[Ò hi,È ha,h.who hw,À,ď (Ù (by simp; omega)),Ë hi (by omega)]
 ·rw[à]
def Bu (h:MOk m) (hw:ĵ m.2 w) (d:Int) {l:List Int} (hl:l.length≤1000):iN l d m w=some (j7 m w d l):=by
 unfold iN oP;rw[xV l (fun x:Int=>(iy m.2 w x d:Int)) (fun z=>ç (î z.length) (some (vI z))) (fun i a hi ha v kn hv=>?_) (fun v kn=>?_),ď (Ù (by simp; omega)),Ow]; rfl
 ·try dsimp only
  unfold ir;rw[Ò hi,È ha,h.who hw,À,ď (Ù (by simp; omega)),Ë hi (by omega)]
 ·try dsimp only
  unfold ir;rw[à]
def tr_L2 (h:MOk m) (hw:ĵ m.2 w) (k0:List Cmp→Option ρ):Ê (fun(v:Int×List Cmp) kk=>jC m w m.1.2.2.2.2.1 (Ø m.1.2.2.2.2.1) v.1 v.2 (fun a b=>kk (a,b)) k0) ((0:Int),[])=k0 (m.1.2.2.2.2.1.map (Q6 m w)):=by
 have hn:=h.good.nC
 refine xV m.1.2.2.2.2.1 (Q6 m w) k0 (fun i a hi ha v kn hv=>?_) (fun v kn=>?_)<;>(try dsimp only)<;>unfold jC
 ·obtain⟨p1,p2⟩:=h.good.size.piles a (cG ha);rw[Ò hi,È ha,Bu h hw _ p1,À,Bu h hw _ p2,À,ď (Ù (by simp; omega)),Ë hi (by omega)];rfl
 ·rw[à]
def tr_L3 (h:MOk m) (hw:ĵ m.2 w) (k0:List (Int×Int)→Option ρ):Ê (fun(v:Int×List (Int×Int)) kk=>jB m w m.1.2.2.2.2.2 (Ø m.1.2.2.2.2.2) v.1 v.2 (fun a b=>kk (a,b)) k0) ((0:Int),[])=k0 (m.1.2.2.2.2.2.map fun n=>(iy m.2 w n.1 n.2,n.2)):=by
 have hn:=h.good.nK
 refine xV m.1.2.2.2.2.2 (fun n:Int×Int=>((iy m.2 w n.1 n.2,n.2):Int×Int)) k0 (fun i a hi ha v kn hv=>?_) (fun v kn=>?_)<;>(try dsimp only)<;>unfold jB
 ·rw[Ò hi,È ha,h.who hw,À,ď (Ù (by simp; omega)),Ë hi (by omega)]
 ·rw[à]
def mq (h:MOk m) (hw:ĵ m.2 w):Α m w=some (trP m w):=by
 have h1:=h.good.nG;unfold Α tN trP;rw[ď (Ù (by omega)),tr_L0 h hw,tr_L1 h hw,tr_L2 h hw,tr_L3 h hw]
end
def Qt {l:List Int} {x:Int} (h:x∈l):∃k,l.findIdx? (·==x)=some k∧l[k]?=some x:=by
 cases hf:l.findIdx? (·==x) with
 |none =>
  have:=dA.1 hf x h;simp at this
 |some k =>
  obtain⟨hk,he,_⟩:=dJ.1 hf;exact⟨k,rfl,by rw[cw hk]; simpa using he⟩
def HE {l:List Int} {x:Int} (h:x∉l):l.findIdx? (·==x)=none:=by
 rw[dA];intro y hy;simp only[beq_eq_false_iff_ne];exact fun e=>h (e▸hy)
def idx_at {l:List Int} (hn:l.Nodup) {k:Nat} {x:Int} (h:l[k]?=some x):l.findIdx? (·==x)=some k:=by
 obtain⟨j,hj,hx⟩:=Qt (cG h);obtain⟨h1,e1⟩:=cB.1 h;obtain⟨h2,e2⟩:=cB.1 hx;rw[hj,(List.getElem_inj hn).1 (e2.trans e1.symm)]
def WS {d d0:Int} {l k:List Int} (hl:l.Nodup) (hk:k.Nodup) (hp:l.Perm k) (x:Int):stp d (d0,k) l (stp d (d0,l) k x)=x:=by
 unfold stp
 by_cases hd:d0<d
 ·simp only[if_pos hd]
  by_cases hx:x∈k
  ·obtain⟨i,h1,h2⟩:=Qt hx;rw[h1];dsimp only
   have hi:i<l.length:=by rw[hp.length_eq]; exact(cB.1 h2).1
   have e:l[i]?=some (l.getD i 0):=by rw[dR,cw hi]; rfl
   rw[idx_at hl e];dsimp only;rw[List.getD_eq_getElem?_getD,h2]; rfl
  ·rw[HE hx];dsimp only;rw[HE fun h=>hx (hp.subset h)]
 ·simp only[if_neg hd]
def Z7 {d:Int} {m:Mx} {l:List Int} (hp:l.Perm m.2) (x:Int):stp d m l x=x∨(m.1<d∧x∈m.2∧stp d m l x∈m.2):=by
 unfold stp
 by_cases hd:m.1<d
 ·simp only[if_pos hd]
  by_cases hx:x∈l
  ·obtain⟨i,h1,h2⟩:=Qt hx;rw[h1];dsimp only
   have hi:i<m.2.length:=by rw[←hp.length_eq]; exact(cB.1 h2).1
   exact .inr ⟨hd,hp.subset hx,by rw[dR,cw hi]; exact eI hi⟩
  ·rw[HE hx];exact .inl rfl
 ·simp only[if_neg hd];exact .inl trivial
def aeN:List Mx→Way→Int→Int→Int
 |m::ms,l::ls,x,d=>aeN ms ls (stp d (m.1,l) m.2 x) d
 |_,_,x,_=>x
def acJ {l:List Int} (h:l.Pairwise (·<·)):l.Nodup:=h.imp fun h=>Int.ne_of_lt h
def ZT:∀{ms:List Mx} {w:Way},ĵ ms w→(∀x∈ms,x.2.Nodup)→∀x d,iy ms w (aeN ms w x d) d=x
 |[],[],_,_,x,d=>rfl
 |m::ms,l::ls,h,hn,x,d=>by
  rw[aeN,iy,ZT h.2 fun y hy=>hn y (df _ hy)];exact WS (d0:=m.1) (h.1.nodup_iff.2 (hn m (by simp))) (hn m (by simp)) h.1 x
def VQ:∀{ms:List Mx} {w:Way},ĵ ms w→(∀x∈ms,x.2.Nodup)→∀x d,aeN ms w (iy ms w x d) d=x
 |[],[],_,_,x,d=>rfl
 |m::ms,l::ls,h,hn,x,d=>by
  rw[aeN,iy];have:=WS (d:=d) (d0:=m.1) (l:=m.2) (k:=l) (hn m (by simp)) (h.1.nodup_iff.2 (hn m (by simp))) h.1.symm (iy ms ls x d);rw[show stp d (m.1,l) m.2 (stp d m l (iy ms ls x d))=_ from this];exact VQ h.2 (fun y hy=>hn y (df _ hy)) x d
def ZU:∀{ms:List Mx} {w:Way} (Q:Int→Prop) {d:Int},ĵ ms w→(∀m∈ms,m.1<d→∀x∈m.2,Q x)→∀{x:Int},Q x→Q (iy ms w x d)
 |[],[],Q,d,_,_,x,hx=>hx
 |m::ms,l::ls,Q,d,h,hm,x,hx=>by
  have:=ZU (x:=x) Q h.2 (fun y hy=>hm y (df _ hy)) hx;rw[iy];rcases Z7 (d:=d) h.1 (iy ms ls x d) with e|⟨e1,_,e2⟩
  ·rw[e]; exact this
  ·exact hm m (by simp) e1 _ e2
def Ho:∀{ms:List Mx} {w:Way} {d:Int},ĵ ms w→∀{x:Int},(∀m∈ms,m.1<d→x∉m.2)→iy ms w x d=x
 |[],[],d,_,x,_=>rfl
 |m::ms,l::ls,d,h,x,hm=>by
  rw[iy,Ho h.2 fun y hy=>hm y (df _ hy)];rcases Z7 (d:=d) h.1 x with e|⟨e1,e2,_⟩
  ·exact e
  ·exact absurd e2 (hm m (by simp) e1)
def Q8:∀{ms:List Mx} {w:Way} {d e:Int},ĵ ms w→ms.Pairwise (fun a b=>a.1<b.1)→d≤e→∀{x:Int},(∀m∈ms,d≤m.1→m.1<e→x∉m.2)→iy ms w x e=iy ms w x d
 |[],[],d,e,_,_,_,x,_=>rfl
 |m::ms,l::ls,d,e,h,hs,hde,x,hm=>by
  rw[di] at hs;rcases gF m.1 d with hlt|hge
  ·rw[iy,iy,Q8 h.2 hs.2 hde fun y hy=>hm y (df _ hy)]
   have e1:∀y,stp e m l y=stp d m l y:=fun y=>by unfold stp; rw[if_pos hlt,if_pos (by omega)]
   exact e1 _
  ·have e1:iy (m::ms) (l::ls) x e=x:=Ho h fun y hy hye=>by
    rcases cF.1 hy with rfl|hy'
    ·exact hm y (by simp) hge hye
    ·exact hm y hy (by have:=hs.1 y hy'; omega) hye
   have e2:iy (m::ms) (l::ls) x d=x:=Ho h fun y hy hyd=>by
    rcases cF.1 hy with rfl|hy'
    ·omega
    ·have:=hs.1 y hy'; omega
   rw[e1,e2]
def BU {b:ġ} (hi:b.2.1.Pairwise fun a b=>a.1<b.1) {id day:Int}:mz (iv b) id day=0↔∃g,Ĉ b id=some g∧g.2.1≤day:=by
 rw[←UJ hi];unfold FM
 cases Ĉ b id with
 |none=>simp
 |some g =>
  dsimp only
  by_cases h:day<g.2.1
  ·rw[if_pos h]; simp; omega
  ·rw[if_neg h]; simp; omega
def Bp {b:ġ} (hi:b.2.1.Pairwise fun a b=>a.1<b.1) {id day:Int}:Z1 (iv b) id day=0↔Ob day=true∧∃g,Ĉ b id=some g∧g.2.1≤day:=by
 unfold Z1
 cases Ob day with
 |false=>simp
 |true=>simp[BU hi]
def TI {b:ġ} (hi:b.2.1.Pairwise fun a b=>a.1<b.1) {i:Nat} {l:Li}:Qk b (iv b) i l=0↔nM l.2.1 0 20000=true∧inP l.2.2 0 1048576=true∧(∃g,Ĉ b l.1=some g∧g.2.1≤l.2.1.1) ∧
 (∀x∈b.2.2.2.1.take i,x.1=l.1→¬(x.2.1.1≤l.2.1.2∧l.2.1.1≤x.2.1.2))∧∀u∈b.2.2.1,u.1=l.1→inP u.2 l.2.1.1 l.2.1.2=false:=by
 unfold Qk;rw[←BU hi]
 cases nM l.2.1 0 20000 with
 |false=>simp
 |true =>
  cases inP l.2.2 0 1048576 with
  |false=>simp
  |true =>
   by_cases h:mz (iv b) l.1 l.2.1.1=0
   ·simp only[h,dw,cQ,if_false,bne_self_eq_false,true_and]
    split
    ·rename_i h1;simp only[dg,cA,beq_iff_eq,decide_eq_true_eq] at h1;obtain⟨x,hx,e1,e2⟩:=h1;exact⟨fun e=>absurd e (by decide),fun e=>absurd e2 (e.1 x hx e1)⟩
    ·rename_i h1;simp only[dg,cA,beq_iff_eq,decide_eq_true_eq,not_exists,not_and] at h1
     split
     ·rename_i h2;simp only[dg,cA,beq_iff_eq] at h2;obtain⟨u,hu,e1,e2⟩:=h2;exact⟨fun e=>absurd e (by decide),fun e=>by have:=e.2 u hu e1; rw[e2] at this; cases this⟩
     ·rename_i h2;simp only[dg,cA,beq_iff_eq,not_exists,not_and] at h2;exact⟨fun _=>⟨fun x hx e ⟨p,q⟩=>h1 x hx e p q,fun u hu e=>by simpa using h2 u hu e⟩,fun _=>rfl⟩
   ·simp[h]
def Nh {b:ġ} (hi:b.2.1.Pairwise fun a b=>a.1<b.1) {c:Cmp}:vO b (iv b) c=0↔(∀x∈c.2.2.1++c.2.2.2.1,(∃g,Ĉ b x=some g∧g.2.1≤c.2.1)∧kZ b x c.2.1=none) ∧
 (ü c.2.2.1 c.2.2.2.1).length≤1∧(ü c.2.2.2.1 c.2.2.1).length≤1∧(ü c.2.2.1 c.2.2.2.1).length+(ü c.2.2.2.1 c.2.2.1).length≠0:=by
 unfold vO;constructor
 ·intro h
  split at h
  ·cases h
  rename_i h1
  split at h
  ·cases h
  rename_i h2
  split at h
  ·cases h
  rename_i h3
  split at h
  ·cases h
  split at h
  ·cases h
  split at h
  ·cases h
  simp only[dg,not_exists,not_and,beq_iff_eq] at h1 h2;simp only[dg,not_exists,not_and,Option.isSome_iff_ne_none,ne_eq,Decidable.not_not] at h3;refine⟨fun x hx=>⟨(BU hi).1 ?_,h3 x hx⟩,by omega,by omega,by omega⟩;rcases Iy (iv b) x c.2.1 with e|e|e
  ·exact e
  ·exact absurd e (h2 x hx)
  ·exact absurd e (h1 x hx)
 ·intro⟨h1,h2,h3,h4⟩;have hz:∀x∈c.2.2.1++c.2.2.2.1,mz (iv b) x c.2.1=0:=fun x hx=>(BU hi).2 (h1 x hx).1;rw[if_neg,if_neg,if_neg,if_neg (by omega),if_neg (by omega),if_neg h4]
  ·simp only[dg,not_exists,not_and,Option.isSome_iff_ne_none,ne_eq,Decidable.not_not];exact fun x hx=>(h1 x hx).2
  ·simp only[dg,not_exists,not_and,beq_iff_eq]
   exact fun x hx e=>by rw[hz x hx] at e; cases e
  ·simp only[dg,not_exists,not_and,beq_iff_eq]
   exact fun x hx e=>by rw[hz x hx] at e; cases e
def FB {b:ġ} {x d:Int}:kZ b x d=none↔∀l∈b.2.2.2.1,l.1=x→inP d l.2.1.1 l.2.1.2=false:=by
 unfold kZ;rw[List.find?_eq_none];simp
def vP {m:œ} {w:Way} {d:Int} {l:List Int} {y:Int}:y∈j7 m w d l↔∃x∈l,iy m.2 w x d=y:=by
 unfold j7;rw[(ķ _).mem_iff,List.mem_map]
section
variable {m:œ} {w:Way}
def MOk.nd (h:MOk m):∀x∈m.2,x.2.Nodup:=fun x hx=>acJ (h.mix hx).asc
def MOk.inj (h:MOk m) (hw:ĵ m.2 w) {d x y:Int} (e:iy m.2 w x d=iy m.2 w y d):x=y:=by
 rw[←VQ hw h.nd x d,e,VQ hw h.nd]
def MOk.whoG (h:MOk m) (hw:ĵ m.2 w) {d x:Int} (hx:∃g,Ĉ m.1 x=some g∧g.2.1≤d):∃g,Ĉ m.1 (iy m.2 w x d)=some g∧g.2.1≤d :=
 ZU (fun y=>∃g,Ĉ m.1 y=some g∧g.2.1≤d) hw (fun y hy hd z hz=>by
  obtain⟨g,h1,h2⟩:=(h.mix hy).known z hz
  exact⟨g,h1,by omega⟩) hx
def MOk.made (h:MOk m) (hw:ĵ m.2 w) {x:Int} {g:ý} (hg:Ĉ m.1 x=some g):iy m.2 w x g.2.1=x :=
 Ho hw fun y hy hd hx=>by
  obtain⟨g',h1,h2⟩:=(h.mix hy).known x hx;rw[hg] at h1; cases h1;omega
def MOk.loan (h:MOk m) (hw:ĵ m.2 w) {l:Li} (hl:l∈m.1.2.2.2.1) {d:Int} (hd:inP d l.2.1.1 l.2.1.2=true):iy m.2 w l.1 d=iy m.2 w l.1 l.2.1.1:=by
 simp only[inP,cA,decide_eq_true_eq] at hd;refine Q8 hw h.days hd.1 fun y hy h1 h2 hx=>?_;have:=(FB.1 ((h.mix hy).home _ hx).1) l hl rfl;simp only[inP,Bool.and_eq_false_iff,decide_eq_false_iff_not] at this;omega
def abl (h:MOk m) (hw:ĵ m.2 w) (d:Int) (A B:List Int):(ü (j7 m w d A) (j7 m w d B)).Perm ((ü A B).map fun x=>iy m.2 w x d):=by
 unfold ü;refine((ķ _).filter _).trans ?_;rw[List.filter_map];refine List.Perm.of_eq ?_;congr 1;refine List.filter_congr fun x hx=>?_;simp only[Function.comp];congr 1;rw[Bool.eq_iff_iff,List.contains_iff_mem,List.contains_iff_mem,vP];exact⟨fun⟨y,hy,e⟩=>h.inj hw e▸hy,fun hy=>⟨x,hy,rfl⟩⟩
def Xb (h:MOk m) (hw:ĵ m.2 w) {d:Int} {l:List Int} (hp:vt l=true) (hk:∀x∈l,∃g,Ĉ m.1 x=some g∧g.2.1≤d):vt (j7 m w d l)=true:=by
 obtain⟨h1,h2,h3⟩:=(By l).1 hp;refine(By _).2 ⟨fun y hy=>?_,?_,by unfold j7; rw[(ķ _).length_eq,List.length_map]; exact h3⟩
 ·obtain⟨x,hx,rfl⟩:=vP.1 hy;obtain⟨g,hg,_⟩:=h.whoG hw (hk x hx);obtain⟨g1,g2⟩:=iL hg;have:=(h.good.gaugeR g1).2.2.2.1;rw[←g2]; exact this
 ·have hnd:(j7 m w d l).Nodup:=by
   unfold j7;rw[(ķ _).nodup_iff];exact List.pairwise_map.2 (h2.imp fun hlt e=>by have:=h.inj hw e; omega)
  exact((iZ _).and hnd).imp fun⟨a,b⟩=>Int.lt_iff_le_and_ne.2 ⟨a,b⟩
def ae9 (h:MOk m) (hw:ĵ m.2 w) {x d:Int} (ha:kZ m.1 x d=none):kZ (trP m w) (iy m.2 w x d) d=none:=by
 rw[FB];intro l' hl' e;obtain⟨l,hl,rfl⟩:=cX.1 hl'
 cases hd:inP d l.2.1.1 l.2.1.2 with
 |false=>rfl
 |true =>
  rw[←h.loan hw hl hd] at e;have:=FB.1 ha l hl (h.inj hw e);rw[hd] at this; cases this
def Ik {b:ġ} (hi:b.2.1.Pairwise fun a b=>a.1<b.1):(Ö b).Nodup:=by
 unfold Ö List.Nodup;rw[List.pairwise_flatMap];refine⟨fun g _=>List.pairwise_map.2 ((uT b g).imp fun h e=>by cases e; omega),hi.imp fun hlt x hx y hy e=>?_⟩;obtain⟨d,_,rfl⟩:=List.mem_map.1 hx;obtain⟨d',_,rfl⟩:=List.mem_map.1 hy;simp only[Prod.mk.injEq] at e;omega
def vY {b:ġ} {x d:Int}:(x,d)∈Ö b↔∃g∈b.2.1,g.1=x∧d∈ä b g:=by
 unfold Ö;simp only[List.mem_flatMap,List.mem_map];constructor
 ·rintro⟨g,hg,d',hd,e⟩;cases e;exact⟨g,hg,rfl,hd⟩
 ·rintro⟨g,hg,rfl,hd⟩;exact⟨g,hg,d,hd,rfl⟩
def yn (h:MOk m) (hw:ĵ m.2 w) {d:Int} {A:List Int} {x:Int}:(j7 m w d A).contains (iy m.2 w x d)=A.contains x:=by
 rw[gk,eV,eV,vP];exact⟨fun⟨y,hy,e⟩=>h.inj hw e▸hy,fun hy=>⟨x,hy,rfl⟩⟩
def ae8 (h:MOk m) (hw:ĵ m.2 w) {x d:Int} (hn:(x,d)∈Ö m.1):(iy m.2 w x d,d)∈Ö (trP m w):=by
 obtain⟨g,hg,rfl,hd⟩:=vY.1 hn;have hgo:=uM h.good.ids hg;obtain⟨g',e1,_⟩:=h.whoG hw (x:=g.1) (d:=d) ⟨g,hgo,(h.good.day hg hd).1⟩;obtain⟨e2,e3⟩:=iL e1;refine vY.2 ⟨g',e2,e3,υ.2 ?_⟩;rcases υ.1 hd with rfl|⟨c,hc,e4,rfl⟩|⟨n,hnn,e4,rfl⟩
 ·rw[h.made hw hgo,hgo] at e1;cases e1;exact .inl rfl
 ·refine .inr (.inl ⟨Q6 m w c,cX.2 ⟨c,hc,rfl⟩,?_,rfl⟩);rw[e3];show(j7 m w c.2.1 c.2.2.1).contains _≠(j7 m w c.2.1 c.2.2.2.1).contains _;rw[yn h hw,yn h hw];exact e4
 ·exact .inr (.inr ⟨_,cX.2 ⟨n,hnn,rfl⟩,by rw[e3,e4],rfl⟩)
def Rm (h:MOk m) (hw:ĵ m.2 w) {y d:Int} (hn:(y,d)∈Ö (trP m w)):∃x,iy m.2 w x d=y∧(x,d)∈Ö m.1:=by
 obtain⟨g,hg,rfl,hd⟩:=vY.1 hn;have hg:g∈m.1.2.1:=hg;have hgo:=uM h.good.ids hg;have hx:iy m.2 w (aeN m.2 w g.1 d) d=g.1:=ZT hw h.nd _ _
 have fin:∀x,iy m.2 w x d=g.1→(∃g',Ĉ m.1 x=some g')→(∀g':ý,g'.1=x→d∈ä m.1 g')→∃x,iy m.2 w x d=g.1∧(x,d)∈Ö m.1:=fun x e ⟨g',e1⟩ e2=>by
  obtain⟨e3,e4⟩:=iL e1;exact⟨x,e,vY.2 ⟨g',e3,e4,e2 g' e4⟩⟩
 rcases υ.1 hd with e|⟨c',hc',e4,e5⟩|⟨n',hn',e4,e5⟩
 ·subst e;exact⟨g.1,h.made hw hgo,vY.2 ⟨g,hg,rfl,qY g⟩⟩
 ·obtain⟨c,hc,rfl⟩:=cX.1 hc';have e5:c.2.1=d:=e5;subst e5;have e4:(j7 m w c.2.1 c.2.2.1).contains g.1≠(j7 m w c.2.1 c.2.2.2.1).contains g.1:=e4;rw[←hx,yn h hw,yn h hw] at e4;refine fin _ hx ?_ fun g' e=>υ.2 (.inr (.inl ⟨c,hc,by rw[e]; exact e4,rfl⟩))
  have:aeN m.2 w g.1 c.2.1∈c.2.2.1++c.2.2.2.1:=by
   rw[cE,←eV,←eV]
   cases h1:c.2.2.1.contains (aeN m.2 w g.1 c.2.1) with
   |true=>exact .inl rfl
   |false =>
    rw[h1] at e4;exact .inr (by simpa using e4)
  obtain⟨⟨g',e,_⟩,_⟩:=h.good.pile hc this;exact⟨g',e⟩
 ·obtain⟨n,hnl,rfl⟩:=cX.1 hn';have e5:n.2=d:=e5;have e4:iy m.2 w n.1 n.2=g.1:=e4;subst e5;obtain⟨_,g',e,_⟩:=(Bp h.good.ids).1 (h.good.looks n hnl);exact fin n.1 e4 ⟨g',e⟩ fun g'' e=>υ.2 (.inr (.inr ⟨n,hnl,e.symm,rfl⟩))
def adv (m:œ) (w:Way) (n:Int×Int):Int×Int:=(iy m.2 w n.1 n.2,n.2)
def aeC (h:MOk m):(trP m w).2.1.Pairwise fun a b=>a.1<b.1:=h.good.ids
def tr_len (h:MOk m) (hw:ĵ m.2 w):(Ö (trP m w)).length=(Ö m.1).length:=by
 have h1:(Ö (trP m w)).length≤((Ö m.1).map (adv m w)).length:=fR (Ik (aeC h)) fun n hn=>by
  obtain⟨x,e,hx⟩:=Rm (y:=n.1) (d:=n.2) h hw hn;exact cX.2 ⟨(x,n.2),hx,Prod.ext e rfl⟩
 have h2:((Ö m.1).map (adv m w)).length≤(Ö (trP m w)).length:=by
  have hnd:((Ö m.1).map (adv m w)).Nodup:=by
   refine List.pairwise_map.2 ((Ik h.good.ids).imp ?_);intro a b hne e;unfold adv at e;simp only[Prod.mk.injEq] at e;obtain⟨e1,e2⟩:=e;rw[e2] at e1;exact hne (Prod.ext (h.inj hw e1) e2)
  refine fR hnd fun n hn=>?_;obtain⟨⟨x,d⟩,hx,rfl⟩:=cX.1 hn;exact ae8 h hw hx
 rw[dv] at h1 h2;omega
def tz (h:MOk m) (hw:ĵ m.2 w):Μ (trP m w):=by
 have hg:=h.good;have hids:=aeC (w:=w) h;have hsh:iv (trP m w)=iv m.1:=rfl;have hgo:∀x,Ĉ (trP m w) x=Ĉ m.1 x:=fun _=>rfl;have hlen:=tr_len h hw;refine⟨hg.film,hg.nG,by simpa[trP] using hg.nU,by simpa[trP] using hg.nL,by simpa[trP] using hg.nC,by simpa[trP] using hg.nK,hg.gauge,hids,?_,?_,?_,?_,by rw[hlen]; exact hg.nodes,by rw[hlen]; simpa[trP] using hg.links⟩
 ·intro u' hu';obtain⟨u,hu,rfl⟩:=cX.1 hu';obtain⟨e1,e2⟩:=(Bp hg.ids).1 (hg.uses u hu);exact(Bp hids).2 ⟨e1,h.whoG hw e2⟩
 ·intro i l' hl'
  obtain⟨l,hl,rfl⟩:∃l,m.1.2.2.2.1[i]?=some l∧(iy m.2 w l.1 l.2.1.1,l.2)=l':=by
   have:(m.1.2.2.2.1.map (fun l:Li=>(iy m.2 w l.1 l.2.1.1,l.2)))[i]?=some l':=hl';rw[dY] at this
   cases hx:m.1.2.2.2.1[i]? with
   |none=>rw[hx] at this; cases this
   |some l=>rw[hx] at this; exact⟨l,rfl,by simpa using this⟩
  have hlm:=cG hl;obtain⟨e1,e2,e3,e4,e5⟩:=(TI hg.ids).1 (hg.loans i l hl);refine(TI hids).2 ⟨e1,e2,h.whoG hw e3,fun x' hx' ex hov=>?_,fun u' hu' eu=>?_⟩
  ·have hx':x'∈(m.1.2.2.2.1.map (fun l:Li=>(iy m.2 w l.1 l.2.1.1,l.2))).take i:=hx';rw[←List.map_take] at hx';obtain⟨x,hx,rfl⟩:=List.mem_map.1 hx';have hxm:=List.mem_of_mem_take hx;have s1:=(sY hg hxm).1;have s2:=(sY hg hlm).1;dsimp only at ex hov
   have d1:inP (max x.2.1.1 l.2.1.1) x.2.1.1 x.2.1.2=true:=by simp[inP]; omega
   have d2:inP (max x.2.1.1 l.2.1.1) l.2.1.1 l.2.1.2=true:=by simp[inP]; omega
   rw[←h.loan hw hxm d1,←h.loan hw hlm d2] at ex;exact e4 x hx (h.inj hw ex) hov
  ·obtain⟨u,hu,rfl⟩:=List.mem_map.1 hu';dsimp only at eu ⊢
   cases hd:inP u.2 l.2.1.1 l.2.1.2 with
   |false=>rfl
   |true =>
    rw[←h.loan hw hlm hd] at eu;have:=e5 u hu (h.inj hw eu);rw[hd] at this; cases this
 ·intro i c' hc'
  obtain⟨c,hc,rfl⟩:∃c,m.1.2.2.2.2.1[i]?=some c∧Q6 m w c=c':=by
   have:(m.1.2.2.2.2.1.map (Q6 m w))[i]?=some c':=hc';rw[dY] at this
   cases hx:m.1.2.2.2.2.1[i]? with
   |none=>rw[hx] at this; cases this
   |some l=>rw[hx] at this; exact⟨l,rfl,by simpa using this⟩
  have hcm:=cG hc;obtain⟨n1,n2,n3,n4,n5,n6,n7⟩:=(jm c).1 (hg.nums hcm);have hp:=(Nh hg.ids).1 (hg.pilesOf hcm);have hk:∀x∈c.2.2.1++c.2.2.2.1,∃g,Ĉ m.1 x=some g∧g.2.1≤c.2.1:=fun x hx=>(hp.1 x hx).1;have hnum:YM (Q6 m w c)=true:=(jm _).2 ⟨n1,n2,n3,n4,n5,Xb h hw n6 fun x hx=>hk x (dm _ hx),Xb h hw n7 fun x hx=>hk x (dl _ hx)⟩;have l1:=(abl h hw c.2.1 c.2.2.1 c.2.2.2.1).length_eq;have l2:=(abl h hw c.2.1 c.2.2.2.1 c.2.2.1).length_eq;rw[dv] at l1 l2
  have hpi:vO (trP m w) (iv (trP m w)) (Q6 m w c)=0:=by
   refine(Nh hids).2 ⟨fun y hy=>?_,?_,?_,?_⟩
   ·have hy:y∈j7 m w c.2.1 c.2.2.1++j7 m w c.2.1 c.2.2.2.1:=hy
    obtain⟨x,hx,rfl⟩:∃x∈c.2.2.1++c.2.2.2.1,iy m.2 w x c.2.1=y:=by
     rcases cE.1 hy with hy|hy
     ·obtain⟨x,hx,e⟩:=vP.1 hy;exact⟨x,dm _ hx,e⟩
     ·obtain⟨x,hx,e⟩:=vP.1 hy;exact⟨x,dl _ hx,e⟩
    exact⟨h.whoG hw (hk x hx),ae9 h hw (hp.1 x hx).2⟩
   ·show(ü (j7 m w c.2.1 c.2.2.1) (j7 m w c.2.1 c.2.2.2.1)).length≤1;rw[l1]; exact hp.2.1
   ·show(ü (j7 m w c.2.1 c.2.2.2.1) (j7 m w c.2.1 c.2.2.1)).length≤1;rw[l2]; exact hp.2.2.1
   ·show(ü (j7 m w c.2.1 c.2.2.1) (j7 m w c.2.1 c.2.2.2.1)).length+(ü (j7 m w c.2.1 c.2.2.2.1) (j7 m w c.2.1 c.2.2.1)).length≠0;rw[l1,l2]; exact hp.2.2.2
  have h0:=hg.compares i c hc;unfold ol at h0 ⊢;rw[hg.nums hcm] at h0;rw[hnum,hpi]
  have ht:((trP m w).2.2.2.2.1.take i).any (fun x=>x.1==(Q6 m w c).1)=(m.1.2.2.2.2.1.take i).any fun x=>x.1==c.1:=by
   show((m.1.2.2.2.2.1.map (Q6 m w)).take i).any _=_;rw[←List.map_take,List.any_map]; rfl
  rw[ht];simp only[dw,cQ,if_false] at h0 ⊢
  split at h0
  ·cases h0
  ·rename_i h1; rw[if_neg h1]
 ·intro n' hn';obtain⟨n,hn,rfl⟩:=cX.1 hn';obtain⟨e1,e2⟩:=(Bp hg.ids).1 (hg.looks n hn);exact(Bp hids).2 ⟨e1,h.whoG hw e2⟩
end
section
variable {L:List Lk} {N:Nat}
def Q4 (h:i9 L N):mj ((N:Int),L)=some (kh L N,0):=by
 have h2:=h.n60;unfold mj ru;rw[kT h,À];dsimp only;rw[Î (by rfl),tD h.links h.n1 (by omega),À]
 cases kh L N<;>rfl
end
def WE (x y:List Int):List Int×List Int×Int:=if !vt x then([],[],1) else if !vt y then([],[],1) else(ü x y,ü y x,0)
def acT {x y:List Int} (hx:x.length≤100000) (hy:y.length≤100000):oE x y=some (WE x y):=by
 unfold oE E8 WE;rw[Dk (by omega),À]
 cases vt x with
 |false=>rfl
 |true =>
  rw[Dk (by omega),À]
  cases vt y with
  |false=>rfl
  |true =>
   rw[xh (by omega) (by omega),À,xh (by omega) (by omega),À];rfl
def less (b:ġ) (ids:List Int):ġ:=(b.1,b.2.1,b.2.2.1,b.2.2.2.1,b.2.2.2.2.1.filter (fun c=>!ids.contains c.1),b.2.2.2.2.2)
section
variable {b:ġ} {ids:List Int}
def Μ.distinct (h:Μ b):b.2.2.2.2.1.Pairwise fun a c=>a.1≠c.1:=by
 rw[List.pairwise_iff_getElem];intro i j hi hj hij he;have hz:=h.compares j _ (List.getElem?_eq_getElem hj);unfold ol at hz
 have hany:(b.2.2.2.2.1.take j).any (fun x=>x.1==b.2.2.2.2.1[j].1)=true:=by
  rw[dg];exact⟨b.2.2.2.2.1[i],cM.2 ⟨i,by rw[cT]; omega,by rw[eO]⟩,by simp[he]⟩
 rw[hany] at hz
 (repeat' split at hz)<;>first|omega|simp_all
def abD {α β:Type} (f g:α→List β):∀l:List α,(∀a∈l,(f a).length≤(g a).length)→(l.flatMap f).length≤(l.flatMap g).length
 |[],_=>cz _
 |a::l,h=>by
  rw[du,du,cD,cD];have:=h a (by simp);have:=abD f g l fun c hc=>h c (by simp[hc]);omega
def lt_len:∀{x y:List Int},x.Pairwise (·<·)→(∀a∈x,a∈y)→x.length≤y.length:=by
 intro x y hx h;exact(fR (hx.imp fun h=>by omega) h)
def Μ.less (h:Μ b) (ids:List Int):Μ (less b ids):=by
 have hsub:∀c∈(ZzM.less b ids).2.2.2.2.1,c∈b.2.2.2.2.1:=fun c hc=>(dM.1 hc).1;have hlen:(ZzM.less b ids).2.2.2.2.1.length≤b.2.2.2.2.1.length:=dW _ _
 have hdays:∀g,(ä (ZzM.less b ids) g).length≤(ä b g).length:=fun g=>lt_len (uT _ g) fun d hd=>by
  rcases υ.1 hd with e|⟨c,hc,h1,h2⟩|hn
  ·exact υ.2 (.inl e)
  ·exact υ.2 (.inr (.inl ⟨c,hsub c hc,h1,h2⟩))
  ·exact υ.2 (.inr (.inr hn))
 have hnodes:(Ö (ZzM.less b ids)).length≤(Ö b).length:=abD _ _ _ fun g _=>by rw[dv,dv]; exact hdays g
 have hN:=h.nodes;have hC:=h.nC;refine⟨h.film,h.nG,h.nU,h.nL,Nat.le_trans hlen h.nC,h.nK,h.gauge,h.ids,h.uses,h.loans,fun i c hc=>?_,h.looks,Nat.le_trans hnodes hN,by omega⟩;have hcm:=hsub c (List.mem_of_getElem? hc);obtain⟨j,hj,hjc⟩:=List.mem_iff_getElem.1 hcm;have hz:=h.compares j c (by rw[List.getElem?_eq_getElem hj,hjc]);unfold ol at hz ⊢
 split at hz
 ·omega
 rename_i h1
 split at hz
 ·omega
 rw[if_neg h1,if_neg ?_]
 ·exact hz
 ·intro hany;obtain⟨x,hx,he⟩:=dg.1 hany;obtain⟨k,hk,hkx⟩:=cM.1 hx;rw[cT] at hk;rw[eO] at hkx;obtain⟨hi,hic⟩:=cB.1 hc;have hp:=dh.1 ((h.distinct.sublist List.filter_sublist:(ZzM.less b ids).2.2.2.2.1.Pairwise fun a c=>a.1≠c.1)) k i (by omega) hi (by omega);rw[hkx,hic] at hp;exact hp (eq_of_beq he)
end
abbrev zC:Cmp:=((0:Int),(0:Int),[],[],(0:Int),(0:Int),(0:Int),(0:Int))
section
variable {ρ α:Type}
def abT (z0:α) (K:List α→Option ρ) (z:Int×List α):Option ρ :=
 ç ((ile (0:Int) z.1)&&(ile z.1 (ñ z.2))) (ç ((ile (0:Int) z.1)&&(ile z.1 (ñ (List.take (Int.toNat z.1) z.2++List.replicate (List.length z.2-(Int.toNat z.1)) z0++List.drop ((Int.toNat z.1)+(List.length z.2-(Int.toNat z.1))) z.2))))
  (K (List.take (Int.toNat z.1) (List.drop 0 (List.take (Int.toNat z.1) z.2++List.replicate (List.length z.2-(Int.toNat z.1)) z0++List.drop ((Int.toNat z.1)+(List.length z.2-(Int.toNat z.1))) z.2)))))
def Wd (z0:α) (K:List α→Option ρ) {i:Nat} {s:List α} (h:i≤s.length):abT z0 K ((i:Int),s)=K (s.take i):=by
 unfold abT
 have g1:((ile (0:Int) (i:Int))&&(ile (i:Int) (ñ s)))=true:=by simp[ile,ñ]; omega
 dsimp only;rw[ď g1]
 have g2:((ile (0:Int) (i:Int))&&(ile (i:Int) (ñ (List.take (Int.toNat (i:Int)) s++List.replicate (List.length s-(Int.toNat (i:Int))) z0++List.drop ((Int.toNat (i:Int))+(List.length s-(Int.toNat (i:Int)))) s))))=true:=by
  simp[ile,ñ]; omega
 rw[ď g2,cO,List.drop_zero,cJ,fh (by simp; omega),List.take_take,Nat.min_self]
def Zl (p:α→Bool) {a:List α} {F:Int→Int→List α→(Int→Int→List α→Option ρ)→Option ρ} {k0:Int×List α→Option ρ} {K:List α→Option ρ}
 (hF:∀(i j:Nat) (s:List α) (x:α),s.length=a.length→i<j→j<s.length→s[j]?=some x→x∈a→∀kn,F i j s kn=if p x then kn ((i:Int)+1) ((j:Int)+1) (s.set i x) else kn i ((j:Int)+1) s)
 (hE:∀(i:Nat) (s:List α) kn,i≤s.length→s.length=a.length→F i s.length s kn=k0 ((i:Int),s)) (hk:∀(i:Nat) (s:List α),i≤s.length→k0 ((i:Int),s)=K (s.take i))
 {z:Nat} (hz:z<a.length) (hp:∀x∈a.take z,p x=true) (hc:∀c,a[z]?=some c→p c=false) :
 Ê (fun(v:Int×Int×List α) kk=>F v.1 v.2.1 v.2.2 (fun x y w=>kk (x,y,w))) ((z:Int),((z:Int)+1),a)=K (a.filter p):=by
 refine Ę (fun x:Int×Int×List α=>∃i j:Nat,x.1=i∧x.2.1=j∧i<j∧j≤a.length∧x.2.2.length=a.length∧x.2.2.take i=(a.take j).filter p∧x.2.2.drop j=a.drop j) (fun x=>a.length-x.2.1.toNat) ?_
  ⟨z,z+1,rfl,by simp,by omega,by omega,rfl,?_,rfl⟩
 ·rintro⟨x1,x2,s⟩ ⟨i,j,h1,h2,hij,hja,hl,ht,hd⟩;simp only at h1 h2 hl ht hd;subst h1 h2;rcases cV j a.length with hj|hj
  ·refine .inr ?_
   have hsj:s[j]?=some a[j]:=by
    have h3:(s.drop j)[0]?=(a.drop j)[0]?:=by rw[hd]
    rw[d9,d9] at h3;simpa[cw hj] using h3
   have hta:(a.take (j+1)).filter p=(a.take j).filter p++if p a[j] then[a[j]] else[]:=by
    rw[take_succ (cw hj),eM];congr 1
    cases h:p a[j]<;>simp[h]
   have hdd:s.drop (j+1)=a.drop (j+1):=by
    have:=congrArg (List.drop 1) hd;simpa[fK,Nat.add_comm] using this
   have hf:=hF i j s a[j] hl hij (by omega) hsj (eI hj)
   cases h:p a[j] with
   |false =>
    refine⟨(i,(j:Int)+1,s),⟨i,j+1,rfl,by simp,by omega,by omega,hl,?_,hdd⟩,by simp; omega,fun kn=>by dsimp only; rw[hf,h]; rfl⟩;rw[hta,h]; simpa using ht
   |true =>
    have his:i<s.length:=by omega
    refine⟨((i:Int)+1,(j:Int)+1,s.set i a[j]),⟨i+1,j+1,by simp,by simp,by omega,by omega,by simpa using hl,?_,?_⟩,by simp; omega,fun kn=>by dsimp only; rw[hf,h]; rfl⟩
    ·show List.take (i+1) (s.set i a[j])=_;rw[hta,h,List.take_add_one,fF,List.take_set_of_le (cz i),ht];simp[his]
    ·show List.drop (j+1) (s.set i a[j])=_;rw[List.drop_set_of_lt (by omega)];exact hdd
  ·refine .inl fun kn=>?_
   have hje:j=s.length:=by omega
   try dsimp only
   rw[hje,hE i s _ (by omega) hl,hk i s (by omega),ht,dV (by omega)]
 ·show List.take z a=(a.take (z+1)).filter p;have hz':a[z]?=some a[z]:=cw hz;rw[take_succ hz',eM,gi.2 hp];simp[hc _ hz']
def Wc (p:α→Bool) {a:List α} {F1:Int→(Int→Option ρ)→Option ρ} {F:Int→Int→List α→(Int→Int→List α→Option ρ)→Option ρ} {k0:Int×List α→Option ρ} {K:List α→Option ρ} {kf:Int→Option ρ} {kend:Option ρ}
 (h1:∀(i:Nat) (x:α),i<a.length→a[i]?=some x→∀kn,F1 i kn=if !p x then kf i else kn ((i:Int)+1)) (h1e:∀kn,F1 a.length kn=kend) (hend:kend=K a)
 (hkf:∀z:Nat,z<a.length→kf z=Ê (fun(v:Int×Int×List α) kk=>F v.1 v.2.1 v.2.2 (fun x y w=>kk (x,y,w))) ((z:Int),((z:Int)+1),a))
 (hF:∀(i j:Nat) (s:List α) (x:α),s.length=a.length→i<j→j<s.length→s[j]?=some x→x∈a→∀kn,F i j s kn=if p x then kn ((i:Int)+1) ((j:Int)+1) (s.set i x) else kn i ((j:Int)+1) s)
 (hE:∀(i:Nat) (s:List α) kn,i≤s.length→s.length=a.length→F i s.length s kn=k0 ((i:Int),s)) (hk:∀(i:Nat) (s:List α),i≤s.length→k0 ((i:Int),s)=K (s.take i)):Ê F1 0=K (a.filter p):=by
 rw[jr a (fun x=>!p x) kf kend h1 h1e]
 cases hf:a.findIdx? (fun x=>!p x) with
 |none =>
  dsimp only;rw[hend,List.filter_eq_self.2];intro x hx;have:=List.findIdx?_eq_none_iff.1 hf x hx;simpa using this
 |some z =>
  obtain⟨hz,hcz,hlt⟩:=List.findIdx?_eq_some_iff_getElem.1 hf;dsimp only;rw[hkf z hz];refine Zl p hF hE hk hz (fun x hx=>?_) (fun c hc=>?_)
  ·obtain⟨j,hj,rfl⟩:=cM.1 hx;rw[cT] at hj;rw[eO];have:=hlt j (by omega);simpa using this
  ·rw[cw hz] at hc;cases hc;simpa using hcz
end
def ka (m:œ) (w:Way):Bool:=kh (iJ (trP m w)) ((Ö (trP m w)).length+1)
def nD (m:œ):List Way:=(Ċ m.2).filter (ka m)
def N2 (m:œ):Way×Bool:=match (Ċ m.2).find? (ka m) with|some w=>(w,true)|none=>([],false)
section
variable {m:œ} {w:Way} {ρ:Type}
def In_tr (h:MOk m) (hw:ĵ m.2 w):In (trP m w):=⟨(tz h hw).size,h.in_.num⟩
def Lg (h:MOk m) (hw:ĵ m.2 w):ic (trP m w)=some ((((Ö (trP m w)).length:Int)+1,iJ (trP m w)),Ou (trP m w),0):=by
 rw[Up (In_tr h hw),Q3,if_neg (by simp[(χ _).2 (tz h hw)])]
def pw (h:MOk m) (hw:ĵ m.2 w):ţ m w=some (ka m w):=by
 unfold ţ wt;rw[mq h hw,À,Lg h hw,À];have:=Q4 (tz h hw).sys;simp only[Int.natCast_add,Int.cast_ofNat_Int] at this;rw[this]; rfl
def nl {i:Nat} (hi:(Ċ m.2)[i]?=some w):ĵ m.2 w:=mo.1 (cG hi)
def pN (h:MOk m):(Ċ m.2).length≤150:=by rw[ZX]; exact h.prod
def abx (h:MOk m):DA m=some (nD m):=by
 unfold DA Pd;have hl:=QJ h;have hl2:=pN h;have hm:((((m.1.1.1,m.1.1.2),m.1.2.1,m.1.2.2.1,m.1.2.2.2.1,m.1.2.2.2.2.1,m.1.2.2.2.2.2),m.2):œ)=m:=rfl;rw[ab3 h,À,HH (fun v y kn hv=>by unfold AF; rw[ď (Ù (by simp; omega))]) (by simp; omega),List.nil_append,Rr h,À]
 refine Wc (a:=Ċ m.2) (ka m) (K:=fun l=>some l) (k0:=abT [] fun l=>some l) (kf:=fun z6=>ifb (ieq z6 (-1:Int)) (some (Ċ m.2)) (ck (z6+(1:Int)) fun n7=>Ê (fun(v15:Int×Int×List Way) kk19=>lL m.1.1.1 m.1.1.2 m.1.2.1 m.1.2.2.1 m.1.2.2.2.1 m.1.2.2.2.2.1 m.1.2.2.2.2.2 m.2 v15.1 v15.2.1 v15.2.2 (fun u16 u17 u18=>kk19 (u16,u17,u18)) (abT [] fun l=>some l)) (z6,n7,Ċ m.2)))
  (F:=fun a b c kn=>lL m.1.1.1 m.1.1.2 m.1.2.1 m.1.2.2.1 m.1.2.2.2.1 m.1.2.2.2.2.1 m.1.2.2.2.2.2 m.2 a b c kn (abT [] fun l=>some l)) (kend:=some (Ċ m.2)) (fun i x hi hx kn=>?_) (fun kn=>?_) rfl (fun z hz=>?_) (fun i j s x hs hij hj hx hxa kn=>?_) (fun i s kn hi hs=>?_) (fun i s hi=>Wd _ _ hi)
 ·try dsimp only
  unfold tP;rw[Ò hi,Š hi,Ė hx,hm,pw h (nl hx),À,Ë hi (by omega),Đ];rfl
 ·try dsimp only
  unfold tP;rw[à]
 ·rw[Î (by simp[ieq]),Ë hz (by omega)]
 ·try dsimp only
  unfold lL;rw[Ò hj,show ñ s=((s.length:Nat):Int) from rfl,Š hj,Ė hx,hm,pw h (mo.1 hxa),À];cases ka m x
  ·simp only[fo,dw,é,cQ,if_false];rw[Ë hj (by omega)]
  ·simp only[fo,dw,mi,if_true];rw[Š (by omega),Ė (cw (by omega)),Ë (show i<s.length by omega) (by omega),Ë hj (by omega),cO]
 ·try dsimp only
  unfold lL;rw[à]
def qX (h:MOk m):ú m=some (N2 m):=by
 unfold ú tQ;have hl2:=pN h;have hm:((((m.1.1.1,m.1.1.2),m.1.2.1,m.1.2.2.1,m.1.2.2.2.1,m.1.2.2.2.2.1,m.1.2.2.2.2.2),m.2):œ)=m:=rfl;rw[HS h,À];refine Eq.trans (lU (Ċ m.2) (fun _ w=>if ka m w then some (w,true) else none) (fun z=>some (z.1,z.2)) (some ([],false)) (fun i x hi hx kn=>?_) (fun kn=>?_)) ?_
 ·try dsimp only
  unfold jF;rw[Ò hi,È hx,hm,pw h (nl hx),À,Ë hi (by omega),Đ]
  cases ka m x<;>rfl
 ·try dsimp only
  unfold jF;rw[à]
 ·rw[Gg,N2]
  have key:∀l:List Way,l.findSome? (fun w=>if ka m w then some (w,true) else none)=(l.find? (ka m)).map fun w=>(w,true):=by
   intro l
   induction l with
   |nil=>rfl
   |cons x l ih =>
    rw[gj,fB]
    cases h:ka m x with
    |true=>rfl
    |false=>exact ih
  rw[key]
  cases(Ċ m.2).find? (ka m)<;>rfl
def nN (m:œ):Bool:=(Ċ m.2).any (ka m)
def uN (m:œ):(N2 m).2=nN m:=by
 unfold N2 nN
 cases h:(Ċ m.2).find? (ka m) with
 |none =>
  symm
  rw[dE]
  exact fun x hx=>by simpa using(dU.1 h) x hx
 |some w =>
  symm
  rw[dg];exact⟨w,eX h,fU h⟩
def ae3 (hs:In m.1) (hn:m.2.length≤1000):KE m=some (if Ļ m≠0 then([],Ļ m) else(nD m,0)):=by
 unfold KE Vm;rw[mn hs hn,À]
 by_cases hc:Ļ m=0
 ·rw[Î (by simp[ine,hc]),if_neg (by simp[hc]),abx ((ň m).1 hc)]; rfl
 ·rw[Ú (by simp[ine,hc]),if_pos hc]
def VP (m:œ):Way×Int:=if Ļ m≠0 then([],Ļ m) else if nN m then((N2 m).1,0) else([],5)
def acR (hs:In m.1) (hn:m.2.length≤1000):DD m=some (VP m):=by
 unfold DD Je VP;rw[mn hs hn,À]
 by_cases hc:Ļ m=0
 ·rw[Î (by simp[ine,hc]),if_neg (by simp[hc]),qX ((ň m).1 hc),À,uN]
  cases nN m<;>rfl
 ·rw[Ú (by simp[ine,hc]),if_pos hc]
def afO (m:œ) (p:Cmp→Bool):œ:=((m.1.1,m.1.2.1,m.1.2.2.1,m.1.2.2.2.1,m.1.2.2.2.2.1.filter p,m.1.2.2.2.2.2),m.2)
def rU (m:œ) (ids:List Int):œ:=afO m fun c=>ids.contains c.1
def UZ (hn:m.1.2.2.2.2.1.length≤1000) {ids:List Int} (hi:ids.length≤1000000):yc m ids=some (rU m ids):=by
 unfold yc O6;rw[ď (Ù (by omega))]
 refine Wc (a:=m.1.2.2.2.2.1) (fun c=>ids.contains c.1) (K:=fun l=>some ((m.1.1,m.1.2.1,m.1.2.2.1,m.1.2.2.2.1,l,m.1.2.2.2.2.2),m.2)) (k0:=abT zC fun l=>some ((m.1.1,m.1.2.1,m.1.2.2.1,m.1.2.2.2.1,l,m.1.2.2.2.2.2),m.2))
  (kf:=fun z4=>ifb (ieq z4 (-1:Int)) (some m) (ck (z4+(1:Int)) fun n5=>Ê (fun(v13:Int×Int×List Cmp) kk17=>lK ids v13.1 v13.2.1 v13.2.2 (fun u14 u15 u16=>kk17 (u14,u15,u16)) (abT zC fun l=>some ((m.1.1,m.1.2.1,m.1.2.2.1,m.1.2.2.2.1,l,m.1.2.2.2.2.2),m.2))) (z4,n5,m.1.2.2.2.2.1)))
  (F:=fun a b c kn=>lK ids a b c kn (abT zC fun l=>some ((m.1.1,m.1.2.1,m.1.2.2.1,m.1.2.2.2.1,l,m.1.2.2.2.2.2),m.2))) (kend:=some m) (fun i x hi' hx kn=>?_) (fun kn=>?_) rfl (fun z hz=>?_) (fun i j s x hs hij hj hx hxa kn=>?_) (fun i s kn hi hs=>?_) (fun i s hi=>Wd _ _ hi)
 ·try dsimp only
  unfold tO;rw[Ò hi',Š hi',Ė hx,ő hi,À,Ë hi' (by omega),Đ];rfl
 ·try dsimp only
  unfold tO;rw[à]
 ·rw[Î (by simp[ieq]),Ë hz (by omega)]
 ·try dsimp only
  unfold lK;rw[Ò hj,show ñ s=((s.length:Nat):Int) from rfl,Š hj,Ė hx,ő hi,À];cases ids.contains x.1
  ·simp only[fo,dw,é,cQ,if_false];rw[Ë hj (by omega)]
  ·simp only[fo,dw,mi,if_true];rw[Š (by omega),Ė (cw (by omega)),Ë (show i<s.length by omega) (by omega),Ë hj (by omega),cO]
 ·try dsimp only
  unfold lK;rw[à]
end
section
variable {b:ġ}
def HB (h:Μ b) (g:ý) {f t u:Int} (h1:f≤t) (h2:t≤u):kG b g f u=kG b g f t+kG b g t u:=by
 obtain⟨n,rfl⟩:∃n:Nat,u=t+n:=⟨(u-t).toNat,by omega⟩;clear h2
 induction n with
 |zero=>simp[TG]
 |succ n ih =>
  have e:t+((n+1:Nat):Int)=(t+n)+1:=by omega
  rw[e,TF h g (show f≤t+(n:Int) by omega),TF h g (show t≤t+(n:Int) by omega),ih];omega
def A9 (h:Μ b) {g:ý} (hg:g∈b.2.1) {f t:Int} (hf:0≤f):0≤kG b g f t:=(uH h hg hf).1
def ψ (b:ġ) (id d:Int):Int:=match ji (Ö b) id d with|some j=>(j:Int)+1|none=>0
def pT (h:Μ b) {i:Nat} {g:ý} (hg:b.2.1[i]?=some g) {k:Nat} {d:Int} (hk:(ä b g)[k]?=some d):ψ b g.1 d=(off b i:Int)+k+1:=by
 unfold ψ;rw[OV h hg hk];simp only;omega
structure tv (b:ġ) (p:Int→Int) (g:ý):Prop where
 hi:p (ψ b g.1 g.2.1)≤p 0+(g.2.2.1+g.2.2.2.1.2)
 lo:p 0+(g.2.2.1+g.2.2.2.1.1)≤p (ψ b g.1 g.2.1)
 down:∀d e,d∈ä b g→e∈ä b g→d≤e→p (ψ b g.1 e)≤p (ψ b g.1 d)
 loss:∀d e,d∈ä b g→e∈ä b g→d≤e→p (ψ b g.1 d)≤p (ψ b g.1 e)+kG b g d e
def Dq (h:Μ b) {i:Nat} {g:ý} (hg:b.2.1[i]?=some g) {p:Int→Int}:(∀l∈Ň b g,p l.2.1≤p l.1+l.2.2)↔tv b p g:=by
 have hgm:=cG hg;obtain⟨tl,htl⟩:=TZ h hgm
 have h0:ψ b g.1 g.2.1=(off b i:Int)+1:=by
  have:=pT h hg (k:=0) (d:=g.2.1) (by rw[htl]; rfl);rw[this];omega
 constructor
 ·intro hl;have e1:=hl _ ((Ĵ h hg).2 (.inl rfl));have e2:=hl _ ((Ĵ h hg).2 (.inr (.inl rfl)));simp only at e1 e2
  have step:∀(k:Nat) (d e:Int),(ä b g)[k]?=some d→(ä b g)[k+1]?=some e→p (ψ b g.1 e)≤p (ψ b g.1 d)∧p (ψ b g.1 d)≤p (ψ b g.1 e)+kG b g d e:=by
   intro k d e hd he;have a1:=hl _ ((Ĵ h hg).2 (.inr (.inr ⟨k,d,e,hd,he,.inl rfl⟩)));have a2:=hl _ ((Ĵ h hg).2 (.inr (.inr ⟨k,d,e,hd,he,.inr rfl⟩)));simp only at a1 a2;rw[pT h hg hd,pT h hg he]
   have e3:(off b i:Int)+((k+1:Nat):Int)+1=(off b i:Int)+k+2:=by omega
   rw[e3];exact⟨by omega,a2⟩
  have pair:∀(n k:Nat) (d e:Int),(ä b g)[k]?=some d→(ä b g)[k+n]?=some e→p (ψ b g.1 e)≤p (ψ b g.1 d)∧p (ψ b g.1 d)≤p (ψ b g.1 e)+kG b g d e:=by
   intro n
   induction n with
   |zero =>
    intro k d e hd he;rw[fA,hd] at he;cases he;rw[TG g (dK _)];omega
   |succ n ih =>
    intro k d e hd he;have hlt:=(cB.1 he).1;have hm:(ä b g)[k+n]?=some ((ä b g)[k+n]'(by omega)):=cw (by omega);obtain⟨a1,a2⟩:=ih k d _ hd hm;obtain⟨a3,a4⟩:=step (k+n) _ e hm he
    have o1:d≤(ä b g)[k+n]'(by omega):=by
     obtain⟨hkl,hkd⟩:=cB.1 hd;rcases fT n with rfl|hn
     ·rw[←hkd]; exact Int.le_of_eq (by congr 1)
     ·have:=(dh.1 (uT b g)) k (k+n) hkl (by omega) (by omega);rw[hkd] at this; omega
    have o2:(ä b g)[k+n]'(by omega)≤e:=by
     obtain⟨hel,hee⟩:=cB.1 he;have:=(dh.1 (uT b g)) (k+n) (k+(n+1)) (by omega) hel (by omega);rw[hee] at this; omega
    have:=HB h g o1 o2;omega
  have any:∀d e,d∈ä b g→e∈ä b g→d≤e→p (ψ b g.1 e)≤p (ψ b g.1 d)∧p (ψ b g.1 d)≤p (ψ b g.1 e)+kG b g d e:=by
   intro d e hd he hde;obtain⟨k,hk,rfl⟩:=cM.1 hd;obtain⟨m,hm,rfl⟩:=cM.1 he
   have hkm:k≤m:=by
    rcases cV m k with hlt|hge
    ·have:=(dh.1 (uT b g)) m k hm hk hlt; omega
    ·exact hge
   exact pair (m-k) k _ _ (cw hk) (by rw[show k+(m-k)=m by omega]; exact cw hm)
  exact⟨by rw[h0]; omega,by rw[h0]; omega,fun d e hd he hde=>(any d e hd he hde).1,fun d e hd he hde=>(any d e hd he hde).2⟩
 ·intro hf l hl;rcases(Ĵ h hg).1 hl with rfl|rfl|⟨k,d,e,hd,he,rfl|rfl⟩
  ·have:=hf.hi; rw[h0] at this; simp only; omega
  ·have:=hf.lo; rw[h0] at this; simp only; omega
  ·have hde:d≤e:=by
    obtain⟨a1,a2⟩:=cB.1 hd;obtain⟨a3,a4⟩:=cB.1 he;have:=(dh.1 (uT b g)) k (k+1) a1 a3 (by omega);rw[a2,a4] at this; omega
   have:=hf.down d e (cG hd) (cG he) hde;rw[pT h hg hd,pT h hg he] at this
   have e3:(off b i:Int)+((k+1:Nat):Int)+1=(off b i:Int)+k+2:=by omega
   rw[e3] at this;simp only;omega
  ·have hde:d≤e:=by
    obtain⟨a1,a2⟩:=cB.1 hd;obtain⟨a3,a4⟩:=cB.1 he;have:=(dh.1 (uT b g)) k (k+1) a1 a3 (by omega);rw[a2,a4] at this; omega
   have:=hf.loss d e (cG hd) (cG he) hde;rw[pT h hg hd,pT h hg he] at this
   have e3:(off b i:Int)+((k+1:Nat):Int)+1=(off b i:Int)+k+2:=by omega
   rw[e3] at this;simp only;exact this
def aay (h:Μ b) {p:Int→Int}:Pot (iJ b) p↔(∀g∈b.2.1,tv b p g)∧∀c∈b.2.2.2.2.1,p (cx b c)≤p (cy b c)+(vK b c).2∧p (cy b c)+(vK b c).1≤p (cx b c):=by
 constructor
 ·intro hp;refine⟨fun g hg=>?_,fun c hc=>?_⟩
  ·obtain⟨i,hi,rfl⟩:=cM.1 hg;exact(Dq h (cw hi)).1 fun l hl=>hp l.1 l.2.1 l.2.2 (oB.2 (.inl ⟨i,_,cw hi,hl⟩))
  ·have a1:=hp _ _ _ (oB.2 (.inr ⟨c,hc,.inl rfl⟩));have a2:=hp _ _ _ (oB.2 (.inr ⟨c,hc,.inr rfl⟩));omega
 ·rintro⟨hg,hc⟩ u v m hl;rcases oB.1 hl with⟨i,g,hig,hl⟩|⟨c,hcm,hl⟩
  ·exact(Dq h hig).2 (hg g (cG hig)) (u,v,m) hl
  ·obtain⟨a1,a2⟩:=hc c hcm;rcases hl with hl|hl
   ·obtain⟨rfl,rfl,rfl⟩:u=cy b c∧v=cx b c∧m=(vK b c).2:=by simpa using hl
    exact a1
   ·obtain⟨rfl,rfl,rfl⟩:u=cx b c∧v=cy b c∧m = -(vK b c).1:=by simpa using hl
    omega
end
def aeK:List Int→Int
 |[]=>0
 |[a]=>a
 |a::b::t=>max a (aeK (b::t))
def Sn:∀{l:List Int},l≠[]→(∀a∈l,a≤aeK l)∧aeK l∈l
 |[],h=>absurd rfl h
 |[a],_=>⟨fun x hx=>by rw[cI] at hx; rw[hx]; exact dK _,by simp[aeK]⟩
 |a::b::t,_=>by
  obtain⟨h1,h2⟩:=Sn (l:=b::t) (by simp);have e:aeK (a::b::t)=max a (aeK (b::t)):=rfl;rw[e];constructor
  ·intro x hx;rcases cF.1 hx with rfl|hx
   ·omega
   ·have:=h1 x hx; omega
  ·rcases Int.le_total a (aeK (b::t)) with h|h
   ·rw[Int.max_eq_right h]; exact df _ h2
   ·rw[Int.max_eq_left h]; exact List.mem_cons_self
section
variable {b:ġ}
def aaw (b:ġ) (f:Int→Int→Int) (z:Int) (v:Int):Int:=if v=0 then z else match (Ö b)[(v-1).toNat]? with|some n=>f n.1 n.2|none=>0
def Ib (f:Int→Int→Int) (z:Int):aaw b f z 0=z:=by unfold aaw; rw[if_pos rfl]
def RF (h:Μ b) (f:Int→Int→Int) (z:Int) {g:ý} (hg:g∈b.2.1) {d:Int} (hd:d∈ä b g):aaw b f z (ψ b g.1 d)=f g.1 d:=by
 obtain⟨i,hi,rfl⟩:=List.mem_iff_getElem.1 hg;obtain⟨k,hk,rfl⟩:=List.mem_iff_getElem.1 hd;have hgi:=List.getElem?_eq_getElem hi;have hdk:=List.getElem?_eq_getElem hk;rw[pT h hgi hdk];unfold aaw
 have e:((off b i:Int)+k+1-1).toNat=off b i+k:=by omega
 rw[if_neg (by omega),e,adu hgi hdk]
def Ug (b:ġ) (l:List Int) (d:Int):Int:=match l with|[]=>0|x::_=>ψ b x d
def Yb (l:List Int) (d:Int):atP (Ö b) l d=Ug b l d:=by
 unfold atP Ug ψ
 cases l<;>rfl
def abX (c:Cmp):cx b c=Ug b (ü c.2.2.1 c.2.2.2.1) c.2.1:=Yb _ _
def abW (c:Cmp):cy b c=Ug b (ü c.2.2.2.1 c.2.2.1) c.2.1:=Yb _ _
def Xz (h:Μ b) {c:Cmp} (hc:c∈b.2.2.2.2.1) {x:Int} (hx:x∈ü c.2.2.1 c.2.2.2.1∨x∈ü c.2.2.2.1 c.2.2.1):∃g∈b.2.1,g.1=x∧c.2.1∈ä b g:=by
 have hx':(x∈c.2.2.1∧x∉c.2.2.2.1)∨(x∈c.2.2.2.1∧x∉c.2.2.1):=by
  rcases hx with hx|hx
  ·exact .inl (m8.1 hx)
  ·exact .inr (m8.1 hx)
 have hm:x∈c.2.2.1++c.2.2.2.1:=by rw[cE]; exact hx'.imp (·.1) (·.1)
 obtain⟨⟨g,hg,_⟩,_⟩:=h.pile hc hm;obtain⟨hgm,hid⟩:=iL hg;refine⟨g,hgm,hid,υ.2 (.inr (.inl ⟨c,hc,?_,rfl⟩))⟩;rw[hid];intro he;rw[gk,eV,eV] at he;rcases hx' with⟨a,e⟩|⟨a,e⟩
 ·exact e (he.1 a)
 ·exact e (he.2 a)
def fill (b:ġ) (p:Int→Int) (g:ý) (d:Int):Int:=aeK ((ä b g).map fun e=>if d≤e then p (ψ b g.1 e) else p (ψ b g.1 e)-kG b g e d)
def KC {p:Int→Int} {g:ý} (d:Int):(∀e∈ä b g,(if d≤e then p (ψ b g.1 e) else p (ψ b g.1 e)-kG b g e d)≤fill b p g d)∧∃e∈ä b g,fill b p g d=if d≤e then p (ψ b g.1 e) else p (ψ b g.1 e)-kG b g e d:=by
 have hne:((ä b g).map fun e=>if d≤e then p (ψ b g.1 e) else p (ψ b g.1 e)-kG b g e d)≠[]:=by
  intro h;have:=List.map_eq_nil_iff.1 h;have h2:=qY (b:=b) g;rw[this] at h2;cases h2
 obtain⟨h1,h2⟩:=Sn hne;refine⟨fun e he=>h1 _ (cX.2 ⟨e,he,rfl⟩),?_⟩;obtain⟨e,he,hx⟩:=cX.1 h2;exact⟨e,he,hx.symm⟩
def XQ (h:Μ b) {p:Int→Int} {g:ý} (hg:g∈b.2.1) (hf:tv b p g) {d:Int} (hd:d∈ä b g):fill b p g d=p (ψ b g.1 d):=by
 obtain⟨h1,e,he,h2⟩:=KC (b:=b) (p:=p) (g:=g) d;have h3:=h1 d hd;rw[if_pos (dK _)] at h3
 have h4:fill b p g d≤p (ψ b g.1 d):=by
  rw[h2]
  split
  ·rename_i hde;exact hf.down d e hd he hde
  ·rename_i hde;have:=hf.loss e d he hd (by omega);omega
 omega
def TX (h:Μ b) {p:Int→Int} {g:ý} (hg:g∈b.2.1) (hf:tv b p g) {d e:Int} (h0:g.2.1≤d) (hde:d≤e):fill b p g e≤fill b p g d∧fill b p g d≤fill b p g e+kG b g d e:=by
 obtain⟨a1,x,hx,a2⟩:=KC (b:=b) (p:=p) (g:=g) d;obtain⟨b1,y,hy,b2⟩:=KC (b:=b) (p:=p) (g:=g) e;have hm:=(h.gaugeR hg).2.2.2.2.1;have hl:=A9 h hg (f:=d) (t:=e) (by omega);have dx:=h.day hg hx;have dy:=h.day hg hy;constructor
 ·have q:=a1 y hy;rw[b2]
  by_cases c1:e≤y
  ·rw[if_pos c1];rw[if_pos (by omega)] at q;exact q
  ·rw[if_neg c1]
   by_cases c2:d≤y
   ·rw[if_pos c2] at q;have:=A9 h hg (f:=y) (t:=e) dy.2.1;omega
   ·rw[if_neg c2] at q;have:=HB h g (f:=y) (t:=d) (u:=e) (by omega) hde;omega
 ·have q:=b1 x hx;rw[a2]
  by_cases c1:d≤x
  ·rw[if_pos c1]
   by_cases c2:e≤x
   ·rw[if_pos c2] at q;omega
   ·rw[if_neg c2] at q;have:=HB h g (f:=d) (t:=x) (u:=e) c1 (by omega);have:=A9 h hg (f:=d) (t:=x) (by omega);omega
  ·rw[if_neg c1];rw[if_neg (by omega)] at q;have:=HB h g (f:=x) (t:=d) (u:=e) (by omega) hde;omega
end
section
variable {b:ġ} {c:Cmp}
def ZD {b':ġ} (h':Μ b') {l:List Int} {day:Int} (f:Int→Int→Int) (z:Int) (hl:∀x∈l,∃g∈b'.2.1,g.1=x∧day∈ä b' g):aaw b' f z (Ug b' l day)=match l with|[]=>z|x::_=>f x day:=by
 unfold Ug
 cases l with
 |nil=>exact Ib f z
 |cons x t =>
  obtain⟨g,hg,rfl,hd⟩:=hl x (by simp);exact RF h' f z hg hd
end
section
variable {L:List Lk} {N:Nat}
def Wl.app {u v:Int} {vs:List Int} {d:Int} (h1:Wl L (fun x=>x=u) vs v d) {ws:List Int} {w e:Int} (h2:Wl L (fun x=>x=v) ws w e):∃xs,Wl L (fun x=>x=u) xs w (d+e):=by
 induction h2 with
 |nil h=>subst h; exact⟨vs,by rw[gy]; exact h1⟩
 |step hw hx ih =>
  obtain⟨xs,hi⟩:=ih;have:=Wl.step hi hx;rw[Int.add_assoc] at this;exact⟨_,this⟩
def dst (L:List Lk) (N:Nat) (s t:Int):Int:=gv (xB L N s) t
def abP (h:i9 L N) (ht:Wx L N) (ho:kh L N=true) {s t:Int} (hs:0≤s∧s<N) (hv:0≤t∧t<N):dst L N s t≤9007199254740992:=by
 have h2:=h.n60;obtain⟨p,hp⟩:=(kg h.links (by omega)).1 ho;obtain⟨vs,d,hw,hd⟩:=ht.from' s hs.1 hs.2;obtain⟨ws,e,hx,he⟩:=ht.to t hv.1 hv.2;obtain⟨xs,hy⟩:=Wl.app hw hx;have:=(Bi h.links (by omega) hp hs).low t xs _ (aeH.2 hy);unfold dst;omega
def dst_ne (h:i9 L N) (ht:Wx L N) (ho:kh L N=true) {s t:Int} (hs:0≤s∧s<N) (hv:0≤t∧t<N):dst L N s t≠Ŗ:=by
 have:=abP h ht ho hs hv;unfold Ŗ;omega
def abO (h:i9 L N) (ht:Wx L N) (ho:kh L N=true) {s t:Int} (hs:0≤s∧s<N) (hv:0≤t∧t<N) {p:Int→Int} (hp:Pot L p):p t-p s≤dst L N s t:=by
 have h2:=h.n60;obtain⟨vs,hw⟩:=(Bi h.links (by omega) hp hs).att t hv.1 hv.2 (dst_ne h ht ho hs hv);obtain⟨u,hu,hx⟩:=(aeH.1 hw).pot hp;subst hu;exact hx
def abN (h:i9 L N) (ht:Wx L N) (ho:kh L N=true) {x y:Int} (hx:0≤x∧x<N) (hy:0≤y∧y<N) : -(dst L N x y)≤dst L N y x:=by
 have h2:=h.n60;obtain⟨p,hp⟩:=(kg h.links (by omega)).1 ho;have a1:=abO h ht ho hx hy hp;have a2:=abO h ht ho hy hx hp;omega
def dst_bd (h:i9 L N) (ht:Wx L N) (ho:kh L N=true) {s t:Int} (hs:0≤s∧s<N) (hv:0≤t∧t<N) : -9007199254740992≤dst L N s t∧dst L N s t≤9007199254740992:=by
 have a1:=abP h ht ho hs hv;have a2:=abP h ht ho hv hs;have a3:=abN h ht ho hv hs;omega
end
def aai (f:Int→Int→Int) (z:Int) (l:List Int) (d:Int):Int:=match l with|[]=>z|x::_=>f x d
def Zk (f:Int→Int→Int) (z:Int) (c:Cmp):Int:=aai f z (ü c.2.2.1 c.2.2.2.1) c.2.1-aai f z (ü c.2.2.2.1 c.2.2.1) c.2.1
structure agf (b:ġ) (f:Int→Int→Int) (z:Int) (g:ý):Prop where
 hi:f g.1 g.2.1≤z+(g.2.2.1+g.2.2.2.1.2)
 lo:z+(g.2.2.1+g.2.2.2.1.1)≤f g.1 g.2.1
 down:∀d e,g.2.1≤d→d≤e→f g.1 e≤f g.1 d
 loss:∀d e,g.2.1≤d→d≤e→f g.1 d≤f g.1 e+kG b g d e
structure Hist (b:ġ) (f:Int→Int→Int) (z:Int):Prop where
 gauge:∀g∈b.2.1,agf b f z g
 cmp:∀c∈b.2.2.2.2.1,(vK b c).1≤Zk f z c∧Zk f z c≤(vK b c).2
def abH {b:ġ} (h:Μ b) {p:Int→Int} (hg:∀g∈b.2.1,tv b p g):∃f:Int→Int→Int,(∀g∈b.2.1,agf b f (p 0) g)∧∀g∈b.2.1,∀d∈ä b g,f g.1 d=p (ψ b g.1 d):=by
 let f:Int→Int→Int:=fun id d=>match Ĉ b id with|some g=>fill b p g d|none=>0
 have hfv:∀g∈b.2.1,∀d,f g.1 d=fill b p g d:=fun g hgm d=>by
  show(match Ĉ b g.1 with|some g=>fill b p g d|none=>0)=_;rw[uM h.ids hgm]
 refine⟨f,fun g hgm=>?_,fun g hgm d hd=>by rw[hfv g hgm]; exact XQ h hgm (hg g hgm) hd⟩;have gf:=hg g hgm
 have e0:f g.1 g.2.1=p (ψ b g.1 g.2.1):=by rw[hfv g hgm]; exact XQ h hgm gf (qY g)
 refine⟨by rw[e0]; exact gf.hi,by rw[e0]; exact gf.lo,fun d e h0 hde=>?_,fun d e h0 hde=>?_⟩
 ·rw[hfv g hgm,hfv g hgm];exact(TX h hgm gf h0 hde).1
 ·rw[hfv g hgm,hfv g hgm];exact(TX h hgm gf h0 hde).2
def Ru {b:ġ} {f:Int→Int→Int} {p:Int→Int} (hm:∀g∈b.2.1,∀d∈ä b g,f g.1 d=p (ψ b g.1 d)) {l:List Int} {day:Int} (hl:∀x∈l,∃g∈b.2.1,g.1=x∧day∈ä b g):p (Ug b l day)=aai f (p 0) l day:=by
 cases l with
 |nil=>rfl
 |cons x t =>
  obtain⟨g,q1,rfl,q3⟩:=hl x (by simp);exact(hm g q1 day q3).symm
def abS {b:ġ} {f:Int→Int→Int} {p:Int→Int} (hm:∀g∈b.2.1,∀d∈ä b g,f g.1 d=p (ψ b g.1 d)) {c:Cmp}
 (hl:∀x,x∈ü c.2.2.1 c.2.2.2.1∨x∈ü c.2.2.2.1 c.2.2.1→∃g∈b.2.1,g.1=x∧c.2.1∈ä b g):p (cx b c)-p (cy b c)=Zk f (p 0) c:=by
 unfold Zk;rw[abX,abW,Ru hm (fun x hx=>hl x (.inl hx)),Ru hm (fun x hx=>hl x (.inr hx))]
def Nf {b:ġ} (h:Μ b) (f:Int→Int→Int) (z:Int) {l:List Int} {day:Int} (hl:∀x∈l,∃g∈b.2.1,g.1=x∧day∈ä b g):aaw b f z (Ug b l day)=aai f z l day:=by
 rw[ZD h f z hl];unfold aai
 cases l<;>rfl
def aav {b:ġ} (h:Μ b) {f:Int→Int→Int} {z:Int} {c:Cmp} (hl:∀x,x∈ü c.2.2.1 c.2.2.2.1∨x∈ü c.2.2.2.1 c.2.2.1→∃g∈b.2.1,g.1=x∧c.2.1∈ä b g):aaw b f z (cx b c)-aaw b f z (cy b c)=Zk f z c:=by
 unfold Zk;rw[abX,abW,Nf h f z (fun x hx=>hl x (.inl hx)),Nf h f z (fun x hx=>hl x (.inr hx))]
def YF {b:ġ} (h:Μ b) {f:Int→Int→Int} {z:Int} {g:ý} (hg:g∈b.2.1) (hh:agf b f z g):tv b (aaw b f z) g:=by
 have q:∀d∈ä b g,aaw b f z (ψ b g.1 d)=f g.1 d:=fun d hd=>RF h f z hg hd;have e0:=q g.2.1 (qY g);refine⟨?_,?_,fun d e hd he hde=>?_,fun d e hd he hde=>?_⟩
 ·rw[e0,Ib]; exact hh.hi
 ·rw[e0,Ib]; exact hh.lo
 ·rw[q d hd,q e he]; exact hh.down d e (h.day hg hd).1 hde
 ·rw[q d hd,q e he]; exact hh.loss d e (h.day hg hd).1 hde
section
variable {b:ġ} {c:Cmp}
def ado (h:Μ b) {p:Int→Int} (hp:Pot (iJ b) p):∃f,Hist b f (p 0)∧∀g∈b.2.1,∀d∈ä b g,f g.1 d=p (ψ b g.1 d):=by
 obtain⟨hg,hc⟩:=(aay h).1 hp;obtain⟨f,hf,hm⟩:=abH h hg;refine⟨f,⟨hf,fun c hcm=>?_⟩,hm⟩;have:=abS hm (c:=c) (fun x hx=>Xz h hcm hx);have:=hc c hcm;omega
def adO (h:Μ b) {f:Int→Int→Int} {z:Int} (hh:Hist b f z):Pot (iJ b) (aaw b f z):=by
 refine(aay h).2 ⟨fun g hg=>YF h hg (hh.gauge g hg),fun c hc=>?_⟩;have:=aav (f:=f) (z:=z) h (c:=c) (fun x hx=>Xz h hc hx);have:=hh.cmp c hc;omega
def Sf (h:Μ b):kh (iJ b) ((Ö b).length+1)=true↔∃f z,Hist b f z:=by
 have:=h.sys.n60;rw[kg h.sys.links (by omega)];constructor
 ·rintro⟨p,hp⟩;obtain⟨f,hf,_⟩:=ado h hp;exact⟨f,_,hf⟩
 ·rintro⟨f,z,hh⟩;exact⟨_,adO h hh⟩
end
def adU {m:œ} (h:Μ m.1) (p:Cmp→Bool):(afO m p).1=less m.1 ((m.1.2.2.2.2.1.filter fun c=>!p c).map fun c=>c.1):=by
 unfold afO less;dsimp only;congr 5;refine List.filter_congr fun c hc=>?_;rw[Bool.eq_iff_iff,Bool.not_eq_true',Bool.eq_false_iff,ne_eq,List.contains_iff_mem,List.mem_map];constructor
 ·rintro hp ⟨c',hc',e⟩;obtain⟨h1,h2⟩:=dM.1 hc'
  have:c'=c:=by
   obtain⟨i,hi,rfl⟩:=cM.1 h1;obtain⟨j,hj,rfl⟩:=cM.1 hc;have hd:=dh.1 h.distinct;rcases Nat.lt_trichotomy i j with hij|hij|hij
   ·exact absurd e (hd i j hi hj hij)
   ·subst hij; rfl
   ·exact absurd e.symm (hd j i hj hi hij)
  rw[this,hp] at h2;cases h2
 ·intro hn
  cases hp:p c with
  |true=>rfl
  |false=>exact absurd ⟨c,dM.2 ⟨hc,by simp[hp]⟩,rfl⟩ hn
def MOk.few {m:œ} (h:MOk m) (p:Cmp→Bool):MOk (afO m p):=by
 refine⟨?_,h.n4,h.mixE,h.prod⟩;rw[adU h.good];exact h.good.less _
section
variable {m:œ} {ρ:Type}
def MS (h:MOk m) (ids:List Int):ú (rU m ids)=some (N2 (rU m ids)):=qX (h.few _)
def xi (b:ġ) (id d:Int):Int:=if !Ob d then 1 else if (Ĉ b id).isNone then 5 else 0
def Qo (hn:m.1.2.1.length≤1000) (id d:Int):ta m id d=some (xi m.1 id d):=by
 unfold ta IM xi
 by_cases h:Ob d=true
 ·have h':=h;simp only[Ob,inP,cA,decide_eq_true_eq] at h';rw[h,Î (by simp[ilt]; omega),Î (by simp[igt]; omega),if_neg (by simp)];refine eo (ş m.1.2.1 (fun g=>g.1==id) (fun z=>ifb (!(ige z (0:Int))) (some 5) (some 0)) (some 0) (some 5) (fun j=>Î (by simp[ige]) _ _) (fun i a hi ha kn=>?_) (fun kn=>?_)) ?_
  ·try dsimp only
   unfold qm;rw[Ò hi,È ha,Ë hi (by omega),Đ]
  ·try dsimp only
   unfold qm;rw[à]
  ·unfold Ĉ
   cases hf:m.1.2.1.find? (fun g=>g.1==id) with
   |none =>
    rw[if_neg]
    ·rfl
    rw[dg];rintro⟨g,hg,e⟩;exact absurd e (by simpa using(dU.1 hf) g hg)
   |some g =>
    rw[if_pos]
    ·rfl
    have hp:=fU hf;exact dg.2 ⟨g,eX hf,hp⟩
 ·have h':=h;simp only[Ob,inP,cA,decide_eq_true_eq,not_and,Int.not_le] at h';rw[if_pos (by simp[h])];rw[Đ,Đ];simp only[ilt,igt,decide_eq_true_eq]
  split
  ·rfl
  ·rw[if_pos (by have:=h' (by omega); omega)]
def K9 (label:Int) (c:Cmp):Bool:=(ü c.2.2.1 c.2.2.2.1).contains label||(ü c.2.2.2.1 c.2.2.1).contains label
def FD (m:œ) (label:Int):Bool×Int:=if Ļ m≠0 then(false,Ļ m) else if xi m.1 label 0≠0 then(false,xi m.1 label 0) else(!nN (afO m (K9 label)),0)
def Un (hs:In m.1) (hn:m.2.length≤1000) (label:Int):og m label=some (FD m label):=by
 unfold og tR FD;rw[mn hs hn,À]
 by_cases hc:Ļ m=0
 ·have h:=(ň m).1 hc;have hC:=h.good.nC;rw[Î (by simp[ine,hc]),if_neg (by simp[hc]),Qo hs.size.gauges,À]
  by_cases hk:xi m.1 label 0=0
  ·rw[Î (by simp[ine,hk]),if_neg (by simp[hk]),ď (Ù (by omega))]
   have hcan:∀c∈m.1.2.2.2.2.1,oE c.2.2.1 c.2.2.2.1=some (ü c.2.2.1 c.2.2.2.1,ü c.2.2.2.1 c.2.2.1,0)∧(ü c.2.2.1 c.2.2.2.1).length≤1000000∧(ü c.2.2.2.1 c.2.2.1).length≤1000000:=fun c hc=>by
    obtain⟨p1,p2⟩:=h.good.size.piles c hc;have hnum:=(jm c).1 (h.good.nums hc);have l1:=Dh c.2.2.1 c.2.2.2.1;have l2:=Dh c.2.2.2.1 c.2.2.1;refine⟨?_,by omega,by omega⟩;rw[acT (by omega) (by omega),WE,hnum.2.2.2.2.2.1,hnum.2.2.2.2.2.2]; rfl
   have hK:∀l,l=m.1.2.2.2.2.1.filter (K9 label)→Ä (ú ((m.1.1,m.1.2.1,m.1.2.2.1,m.1.2.2.2.1,l,m.1.2.2.2.2.2),m.2)) (fun r24=>some ((!r24.2),(0:Int)))=some (!nN (afO m (K9 label)),0):=fun l hl=>by
    subst hl;have:=qX (h.few (K9 label));unfold afO at this ⊢;rw[this,À,uN]
   refine eo (Wc (a:=m.1.2.2.2.2.1) (K9 label) (K:=fun l=>Ä (ú ((m.1.1,m.1.2.1,m.1.2.2.1,m.1.2.2.2.1,l,m.1.2.2.2.2.2),m.2)) fun r24=>some ((!r24.2),(0:Int))) (k0:=abT zC fun l=>Ä (ú ((m.1.1,m.1.2.1,m.1.2.2.1,m.1.2.2.2.1,l,m.1.2.2.2.2.2),m.2)) fun r24=>some ((!r24.2),(0:Int)))
    (kf:=fun z9=>ifb (ieq z9 (-1:Int)) (Ä (ú m) fun r10=>some ((!r10.2),(0:Int))) (ck (z9+(1:Int)) fun n11=>Ê (fun(v25:Int×Int×List Cmp) kk29=>Ÿ label v25.1 v25.2.1 v25.2.2 (fun u26 u27 u28=>kk29 (u26,u27,u28)) (abT zC fun l=>Ä (ú ((m.1.1,m.1.2.1,m.1.2.2.1,m.1.2.2.2.1,l,m.1.2.2.2.2.2),m.2)) fun r24=>some ((!r24.2),(0:Int)))) (z9,n11,m.1.2.2.2.2.1)))
    (F:=fun a b c kn=>Ÿ label a b c kn (abT zC fun l=>Ä (ú ((m.1.1,m.1.2.1,m.1.2.2.1,m.1.2.2.2.1,l,m.1.2.2.2.2.2),m.2)) fun r24=>some ((!r24.2),(0:Int)))) (kend:=Ä (ú m) fun r10=>some ((!r10.2),(0:Int))) (fun i x hi hx kn=>?_) (fun kn=>?_) rfl (fun z hz=>?_) (fun i j s x hs hij hj hx hxa kn=>?_) (fun i s kn hi hs=>?_) (fun i s hi=>Wd _ _ hi)) (hK _ rfl)
   ·try dsimp only
    unfold jG;obtain⟨c1,c2,c3⟩:=hcan x (List.mem_of_getElem? hx);rw[Ò hi,Š hi,Ė hx,c1,À,ő c2,À,ő c3,À];unfold K9
    cases(ü x.2.2.1 x.2.2.2.1).contains label<;>cases(ü x.2.2.2.1 x.2.2.1).contains label<;>simp only[mi,é,dw,fo,Bool.or_true,Bool.or_false,if_true,cQ,if_false]<;>first|rfl|rw[Ë hi (by omega)]
   ·try dsimp only
    unfold jG;rw[à]
   ·rw[Î (by simp[ieq]),Ë hz (by omega)]
   ·try dsimp only
    unfold Ÿ;obtain⟨c1,c2,c3⟩:=hcan x hxa;have hx2:s[i]?=some s[i]:=List.getElem?_eq_getElem (by omega);rw[Ò hj,show ñ s=((s.length:Nat):Int) from rfl,Š hj,Ė hx,c1,À,ő c2,À,ő c3,À];unfold K9
    cases(ü x.2.2.1 x.2.2.2.1).contains label<;>cases(ü x.2.2.2.1 x.2.2.1).contains label<;>simp only[mi,é,dw,fo,Bool.or_true,Bool.or_false,if_true,cQ,if_false]<;>first|rw[Ë hj (by omega)]|rw[Š (by omega),Ė hx2,Ë (show i<s.length by omega) (by omega),Ë hj (by omega),cO]
   ·try dsimp only
    unfold Ÿ;rw[à]
  ·rw[Ú (by simp[ine,hk]),if_pos hk]
 ·rw[Ú (by simp[ine,hc]),if_pos hc]
def VZ (m:œ):List Int:=m.1.2.2.2.2.1.map fun c=>c.1
def ab1 (m:œ):Nat→List Int→List Int
 |0,l=>l
 |i+1,l=>ab1 m i (if nN (rU m (l.take i++l.drop (i+1))) then l else l.take i++l.drop (i+1))
def agi (m:œ):List Int×Int:=if Ļ m≠0 then([],Ļ m) else if nN m then([],5) else(ab1 m (VZ m).length (VZ m),0)
def agh (hs:In m.1) (hn:m.2.length≤1000):HI m=some (agi m):=by
 unfold HI Pq agi;rw[mn hs hn,À]
 by_cases hc:Ļ m=0
 ·have h:=(ň m).1 hc;have hC:=h.good.nC;have hm:((((m.1.1.1,m.1.1.2),m.1.2.1,m.1.2.2.1,m.1.2.2.2.1,m.1.2.2.2.2.1,m.1.2.2.2.2.2),m.2):œ)=m:=rfl;rw[Î (by simp[ine,hc]),if_neg (by simp[hc]),qX h,À,uN]
  cases nN m with
  |true=>rfl
  |false =>
   simp only[é,cQ,if_false]
   have hl:(VZ m).length=m.1.2.2.2.2.1.length:=by unfold VZ; simp
   refine eo (xV m.1.2.2.2.2.1 (fun c=>c.1) (fun z5=>ck ((Ø z5)-(1:Int)) fun n6=>Ê (fun(v14:List Int×Int) kk17=>oT m.1.1.1 m.1.1.2 m.1.2.1 m.1.2.2.1 m.1.2.2.2.1 m.1.2.2.2.2.1 m.1.2.2.2.2.2 m.2 v14.1 v14.2 (fun u15 u16=>kk17 (u15,u16)) (fun z13=>some (z13,(0:Int)))) (z5,n6)) (fun i a hi ha v kn hv=>?_) (fun v kn=>?_)) ?_
   ·try dsimp only
    unfold tT;rw[Ò hi,È ha,ď (Ù (by simp; omega)),Ë hi (by omega)]
   ·try dsimp only
    unfold tT;rw[à]
   ·show(ck ((Ø (VZ m))-(1:Int)) fun n6=>Ê _ (VZ m,n6))=_;rw[Ñ,Ó (by omega) (by omega)];refine Ę (fun x:List Int×Int=>∃i:Nat,x.2=(i:Int)-1∧i≤x.1.length∧x.1.length≤40∧ab1 m i x.1=ab1 m (VZ m).length (VZ m)) (fun x=>(x.2+1).toNat) ?_ ⟨_,rfl,Nat.le_refl _,by dsimp only; omega,rfl⟩;rintro⟨l,x2⟩ ⟨i,h1,hil,hl40,hco⟩;simp only at h1 hil hl40 hco;subst h1
    cases i with
    |zero =>
     refine .inl fun kn=>?_
     try dsimp only
     unfold oT;rw[Î (by simp[ige]),←hco]; rfl
    |succ i =>
     have e0:((i+1:Nat):Int)-1=i:=by omega
     have hlen:(l.take i++l.drop (i+1)).length=l.length-1:=by simp; omega
     rw[ab1] at hco;refine .inr ⟨(if nN (rU m (l.take i++l.drop (i+1))) then l else l.take i++l.drop (i+1),(i:Int)-1),⟨i,rfl,?_,?_,hco⟩,by simp only[e0]; omega,fun kn=>?_⟩
     ·dsimp only; split<;>omega
     ·dsimp only; split<;>omega
     ·try dsimp only
      unfold oT;rw[e0,Ú (by simp[ige]),ď (by simp[ile,ñ]; omega),Ó (by omega) (by omega),ď (by simp[ile,ñ]; omega),Int.toNat_natCast,show Int.toNat ((i:Int)+1)=i+1 by omega,Ln (by simp; omega) (by simp; omega),À,hm,UZ (by omega) (by omega),À,MS h,À,uN,Đ,Ó (by omega) (by omega),Ó (by omega) (by omega)]
      cases nN (rU m (l.take i++l.drop (i+1)))<;>rfl
 ·rw[Ú (by simp[ine,hc]),if_pos hc]
end
def ĉ:List Int→Nat→List Int
 |[],_=>[]
 |x::l,s=>if s % 2=1 then x::ĉ l (s / 2) else ĉ l (s / 2)
def KS:∀{l:List Int} {s i:Nat} {x:Int},l[i]?=some x→ĉ (l.take (i+1)) s=ĉ (l.take i) s++if s / 2 ^ i % 2=1 then[x] else[]
 |[],_,_,_,h=>by simp at h
 |y::l,s,0,x,h=>by
  simp at h; subst h;simp[ĉ]
 |y::l,s,i+1,x,h=>by
  simp only[fi] at h;have:=KS (s:=s / 2) h;simp only[gg,ĉ,this,Nat.pow_succ',←Nat.div_div_eq_div_mul]
  split<;>rfl
def oG:∀(l:List Int) (s:Nat),(ĉ l s).length≤l.length
 |[],_=>cz _
 |x::l,s=>by
  have:=oG l (s / 2);unfold ĉ
  split<;>simp only[cN]<;>omega
def bit_i {s i:Nat} (hs:s<9223372036854775808) (hi:i≤60):ieq (andI .i64 (gK .i64 (s:Int) (i:Int)) (1:Int)) (1:Int)=decide (s / 2 ^ i % 2=1):=by
 have h1:gK .i64 (s:Int) (i:Int)=((s / 2 ^ i:Nat):Int):=by
  unfold gK;have:IntKind.i64.bits=64:=rfl;rw[this,Int.toNat_natCast,Nat.min_eq_left (by omega),Int.fdiv_eq_ediv_of_nonneg _ (Int.le_of_lt (Int.pow_pos (by decide)))];push_cast; rfl
 rw[h1];unfold andI acY
 have hb:(BitVec.ofInt 64 ((s / 2 ^ i:Nat):Int) &&& BitVec.ofInt 64 1).toNat=s / 2 ^ i % 2:=by
  rw[BitVec.toNat_and,f6,show BitVec.ofInt 64 1=1#64 from rfl,BitVec.toNat_ofNat];rw[show(1#64).toNat=1 from rfl,Nat.and_one_is_mod,Nat.mod_mod_of_dvd _ (by decide)]
 show ieq (IntKind.i64.wrap ((BitVec.ofInt 64 ((s / 2 ^ i:Nat):Int) &&& BitVec.ofInt 64 1).toNat:Int)) 1=_;have hq:s / 2 ^ i % 2<2:=Nat.mod_lt _ (by decide);rw[hb];generalize s / 2 ^ i % 2=q at hq;rw[ZS (by omega)];unfold ieq;rw[Bool.eq_iff_iff,beq_iff_eq,decide_eq_true_eq];omega
def afe (s x:Nat):Bool:=s &&& x==s
def sub_i {s x:Nat} (hs:s<9223372036854775808) (hx:x<9223372036854775808):ieq (FC .i64 (s:Int) (x:Int)) (0:Int)=afe s x:=by
 unfold FC acY;show ieq (IntKind.i64.wrap ((BitVec.ofInt 64 (s:Int) &&& ~~~ BitVec.ofInt 64 (x:Int)).toNat:Int)) 0=_
 have h1:(BitVec.ofInt 64 (s:Int) &&& ~~~ BitVec.ofInt 64 (x:Int)).toNat<9223372036854775808:=by
  rw[BitVec.toNat_and];refine Nat.lt_of_le_of_lt Nat.and_le_left ?_;rw[f6,BitVec.toNat_ofNat,Nat.mod_eq_of_lt (by omega)]; exact hs
 rw[ZS h1];unfold ieq afe;rw[Bool.eq_iff_iff,beq_iff_eq,beq_iff_eq]
 have h2:(((BitVec.ofInt 64 (s:Int) &&& ~~~ BitVec.ofInt 64 (x:Int)).toNat:Nat):Int)=0↔∀i,i<64→s.testBit i=true→x.testBit i=true:=by
  rw[Int.natCast_eq_zero,←BitVec.toNat_zero (w:=64),BitVec.toNat_inj];constructor
  ·intro h i hi hsi;have:=congrArg (fun b:BitVec 64=>b.getLsbD i) h;simp only[BitVec.getLsbD_and,BitVec.getLsbD_not,f6,BitVec.getLsbD_ofNat,BitVec.getLsbD_zero,hi,decide_true,dZ,hsi] at this;simpa using this
  ·intro h;apply BitVec.eq_of_getLsbD_eq;intro i hi;simp only[BitVec.getLsbD_and,BitVec.getLsbD_not,f6,BitVec.getLsbD_ofNat,BitVec.getLsbD_zero,hi,decide_true,dZ]
   cases hsi:s.testBit i with
   |false=>simp
   |true=>rw[h i hi hsi]; simp
 rw[h2];constructor
 ·intro h;refine Nat.eq_of_testBit_eq fun i=>?_;rw[Nat.testBit_and]
  cases hsi:s.testBit i with
  |false=>rfl
  |true =>
   rcases cV i 64 with hi|hi
   ·rw[h i hi hsi]; rfl
   ·have:s<2 ^ i:=cS hs (cR (by decide) (Nat.pow_le_pow_right (by decide) hi));rw[Nat.testBit_lt_two_pow this] at hsi; cases hsi
 ·intro h i _ hsi;rw[←h,Nat.testBit_and,cA] at hsi;exact hsi.2
def ZJ:List Int→List Int→Int
 |[],[]=>0
 |[],_=>-1
 |_,[]=>1
 |x::l,y::m=>if x<y then -1 else if y<x then 1 else ZJ l m
def Gr (m:œ) (ids:List Int) (st:List Int×Nat×List Nat) (s:Nat):List Int×Nat×List Nat :=
 if st.1.length<(ĉ ids s).length∨((ĉ ids s).length=st.1.length∧0≤ZJ (ĉ ids s) st.1) then st else
 if st.2.2.any (afe s) then st else if nN (rU m (ĉ ids s)) then(st.1,st.2.1,st.2.2++[s]) else(ĉ ids s,s,st.2.2)
def Gs (m:œ) (ids:List Int) (n:Nat):List Int×Nat×List Nat:=(List.range n).foldl (Gr m ids) (ids,2 ^ ids.length-1,[])
def acN (m:œ) (ids:List Int):List Int×Int :=
 if Ļ m≠0 then([],Ļ m) else if 8<ids.length then([],2) else if !ids.all (fun i=>(VZ m).contains i) then([],5) else if ¬ids.Pairwise (·<·) then([],6) else
 if nN (rU m (ĉ ids (2 ^ ids.length-1))) then([],5) else(ĉ ids (Gs m ids (2 ^ ids.length-1)).2.1,0)
section
variable {m:œ} {ρ:Type}
def DN {l:List Int} (hl:l.length≤60) {s:Nat} (hs:s<9223372036854775808):g9 l (s:Int)=some (ĉ l s):=by
 unfold g9 Ew;refine Ħ l (fun i=>ĉ (l.take i) s) _ rfl (fun i x hi hx kn=>?_) (fun kn=>?_)
 ·try dsimp only
  unfold nY;have hcl:=oG (l.take i) s
  have:(l.take i).length=i:=by rw[cT]; omega
  rw[Ò hi,È hx,ď (by simp[ile]),bit_i hs (by omega),Đ,KS hx]
  by_cases h:s / 2 ^ i % 2=1
  ·rw[if_pos (by simpa using h),if_pos h,ď (Ù (by simp; omega)),Ë hi (by omega)]
  ·rw[if_neg (by simpa using h),if_neg h,Ë hi (by omega),cW]
 ·try dsimp only
  unfold nY;rw[à,List.take_length]
def adh (hn:m.1.2.2.2.2.1.length≤1000) {ids:List Int} (hi:ids.length≤1000) (K:Int→Option ρ) (Z:Option ρ):Ê (fun(v:Int) kk=>ε ids (Ø ids) m.1.2.2.2.2.1 v (fun u=>kk u) K (fun _=>Z)) 0=if ids.all (fun i=>(VZ m).contains i) then Z else K 5:=by
 have:=ş ids (fun i=>!(VZ m).contains i) (fun _=>K 5) (K 5) Z (f:=fun v kk=>ε ids (Ø ids) m.1.2.2.2.2.1 v (fun u=>kk u) K (fun _=>Z)) (fun _=>rfl) (fun i x hi' hx kn=>?_) (fun kn=>?_)
 ·rw[this,List.all_eq_not_any_not]
  cases ids.any (fun i=>!(VZ m).contains i)<;>rfl
 ·try dsimp only
  unfold ε;rw[Ò hi',È hx];refine Eq.trans (ş m.1.2.2.2.2.1 (fun c=>c.1==x) (fun z5=>ifb (!(ige z5 (0:Int))) (K (5:Int)) (ck ((i:Int)+(1:Int)) fun n6=>kn n6)) (kn ((i:Int)+1)) (K 5) (fun j=>by rw[Î (by simp[ige]),Ë hi' (by omega)]) (fun j c hj hc kn'=>?_) (fun kn'=>?_)) ?_
  ·try dsimp only
   unfold kr;rw[Ò hj,È hc,Ë hj (by omega),Đ]
  ·try dsimp only
   unfold kr;rw[à]
  ·have:(VZ m).contains x=m.1.2.2.2.2.1.any fun c=>c.1==x:=by
    unfold VZ;rw[Bool.eq_iff_iff,List.contains_iff_mem,List.mem_map,List.any_eq_true];simp
   rw[this]
   cases m.1.2.2.2.2.1.any (fun c=>c.1==x)<;>rfl
 ·try dsimp only
  unfold ε;rw[à]
def adg {l:List Int} (hl:l.length≤1000) (k0:Int→Option ρ) (k1:Unit→Option ρ):Ê (fun(v:Int) kk=>iC l v (fun u=>kk u) k0 k1) 1=if l.Pairwise (·<·) then k1 () else k0 6:=by
 refine Xt (fun i a c ha hc kn=>?_) (fun n hn kn=>?_)
 ·have hi:=(List.getElem?_eq_some_iff.1 hc).1;unfold iC
  have e:((i:Int)+1)=((i+1:Nat):Int):=by omega
  rw[e,Ò hi,È hc,Ó (by omega) (by omega),←e,Int.add_sub_cancel,È ha,Đ,Ó (by omega) (by omega)];simp
 ·unfold iC;rw[Î (by simp[ilt,Ñ]; omega)]
def DI (h:MOk m) (ids:List Int) {w:Way} (hw:ĵ m.2 w):ţ (rU m ids) w=some (ka (rU m ids) w):=pw (h.few _) hw
def adf (h:MOk m) {ids:List Int} (hi:ids.length≤60) {s:Nat} (hs:s<9223372036854775808) (X Z:Option ρ):Ê (fun(v:Int) kk=>iB (Ċ m.2) (Ø (Ċ m.2)) m.1.1.1 m.1.1.2 m.1.2.1 m.1.2.2.1 m.1.2.2.2.1 m.1.2.2.2.2.1 m.1.2.2.2.2.2 m.2 ids (s:Int) v (fun u=>kk u) (fun z=>ifb z.2 X Z) (fun _=>Z)) 0=if nN (rU m (ĉ ids s)) then X else Z:=by
 have hm:((((m.1.1.1,m.1.1.2),m.1.2.1,m.1.2.2.1,m.1.2.2.2.1,m.1.2.2.2.2.1,m.1.2.2.2.2.2),m.2):œ)=m:=rfl;have hl2:=pN h;have hcl:=oG ids s;refine ş (Ċ m.2) (ka (rU m (ĉ ids s))) (fun _=>X) X Z (fun _=>rfl) (fun i x hi' hx kn=>?_) (fun kn=>?_)
 ·try dsimp only
  unfold iB;rw[Ò hi',È hx,DN hi hs,À,hm,UZ h.good.size.compares (by omega),À,DI h _ (nl hx),À,Ë hi' (by omega),Đ,Bool.not_not];rfl
 ·try dsimp only
  unfold iB;rw[à]
def adb (h:MOk m) {ids:List Int} (hi:ids.length≤60) {s:Nat} (hs:s<9223372036854775808) {op:List Int} (ho:op.length≤1000) (k0 k1:List Int→Option ρ):Ê (fun(v:Int×List Int) kk=>ō (s:Int) (Ċ m.2) (Ø (Ċ m.2)) ids m.1.1.1 m.1.1.2 m.1.2.1 m.1.2.2.1 m.1.2.2.2.1 m.1.2.2.2.2.1 m.1.2.2.2.2.2 m.2 v.1 v.2 (fun a b=>kk (a,b)) k0 k1) ((0:Int),op)=if nN (rU m (ĉ ids s)) then k0 (op++[(s:Int)]) else k1 op:=by
 have hm:((((m.1.1.1,m.1.1.2),m.1.2.1,m.1.2.2.1,m.1.2.2.2.1,m.1.2.2.2.2.1,m.1.2.2.2.2.2),m.2):œ)=m:=rfl;have hl2:=pN h;have hcl:=oG ids s;refine J9 (Ċ m.2) (fun _=>op) _ (fun i=>∀w∈(Ċ m.2).take i,ka (rU m (ĉ ids s)) w=false) rfl (fun w hw=>by simp at hw) (fun i x hi' hx hp kn=>?_) (fun hp kn=>?_)
 ·try dsimp only
  unfold ō;rw[Ò hi',È hx,DN hi hs,À,hm,UZ h.good.size.compares (by omega),À,DI h _ (nl hx),À,Ë hi' (by omega),ď (Ù (by simp; omega)),Đ,Bool.not_not]
  cases hx2:ka (rU m (ĉ ids s)) x with
  |true =>
   refine .inl ?_;have:nN (rU m (ĉ ids s))=true:=dg.2 ⟨x,cG hx,hx2⟩;rw[this]; rfl
  |false =>
   refine .inr ⟨fun w hw=>?_,rfl⟩;rw[take_succ hx] at hw;rcases cE.1 hw with hw|hw
   ·exact hp w hw
   ·rw[cI.1 hw]; exact hx2
 ·rw[fu] at hp
  try dsimp only
  unfold ō
  have:nN (rU m (ĉ ids s))=false:=dE.2 fun w hw=>by rw[show ka (rU m (ĉ ids s)) w=false from hp w hw]; simp
  rw[à,this]; rfl
def adc {s:Nat} (hs:s<9223372036854775808) {op:List Nat} (ho:op.length≤1000) (hop:∀x∈op,x<9223372036854775808) (X Z:Option ρ):Ê (fun(v:Int) kk=>Ŏ (s:Int) (Ø (op.map fun(x:Nat)=>(x:Int))) (op.map fun(x:Nat)=>(x:Int)) v (fun u=>kk u) (fun _=>X) (fun _=>Z)) 0=if op.any (afe s) then X else Z:=by
 refine ş op (afe s) (fun _=>X) X Z (fun _=>rfl) (fun i x hi hx kn=>?_) (fun kn=>?_)
 ·try dsimp only
  unfold Ŏ
  have hx':(op.map fun(x:Nat)=>(x:Int))[i]?=some (x:Int):=by rw[dY,hx]; rfl
  have hi':i<(op.map fun(x:Nat)=>(x:Int)).length:=by simpa using hi
  rw[Ò hi',Š hi',Ė hx',sub_i hs (hop x (cG hx)),Ë hi (by omega),Đ]
 ·try dsimp only
  unfold Ŏ;rw[Ñ,Î (by simp[ilt])]
def afE {l m:List Int} (h:l.length=m.length) (hp:∀(i:Nat) (x y:Int),l[i]?=some x→m[i]?=some y→x=y):ZJ l m=0:=by
 induction l generalizing m with
 |nil=>cases m with|nil=>rfl|cons _ _=>cases h
 |cons x l ih =>
  cases m with
  |nil=>cases h
  |cons y m =>
   have e:=hp 0 x y rfl rfl;subst e;rw[ZJ,if_neg (by omega),if_neg (by omega)];exact ih (by simpa using h) fun i a b ha hb=>hp (i+1) a b ha hb
def lex_at {l m:List Int} {i:Nat} {x y:Int} (hx:l[i]?=some x) (hy:m[i]?=some y) (hp:∀(j:Nat) (a b:Int),j<i→l[j]?=some a→m[j]?=some b→a=b) (hne:x≠y):ZJ l m=if x<y then -1 else 1:=by
 induction l generalizing m i with
 |nil=>simp at hx
 |cons a l ih =>
  cases m with
  |nil=>simp at hy
  |cons b m =>
   cases i with
   |zero =>
    simp at hx hy; subst hx hy;rw[ZJ]
    split
    ·rfl
    ·rw[if_pos (by omega)]
   |succ i =>
    have e:=hp 0 a b (by omega) rfl rfl;subst e;rw[ZJ,if_neg (by omega),if_neg (by omega)];exact ih (by simpa using hx) (by simpa using hy) fun j a b hj ha hb=>hp (j+1) a b (by omega) ha hb
def ade {l k:List Int} (h:k.length=l.length) (hl:l.length≤1000) (X Y:Option ρ):Ê (fun(v:Int) kk=>Ŭ l k (Ø k) v (fun u=>kk u) (fun z=>ifb (ige z (0:Int)) X Y) (fun _=>X)) 0=if 0≤ZJ k l then X else Y:=by
 have:=Ę (r:=if 0≤ZJ k l then X else Y) (f:=fun v kk=>Ŭ l k (Ø k) v (fun u=>kk u) (fun z=>ifb (ige z (0:Int)) X Y) (fun _=>X)) (x:=(0:Int)) (fun x=>∃i:Nat,x=i∧i≤k.length∧∀(j:Nat) (a b:Int),j<i→k[j]?=some a→l[j]?=some b→a=b) (fun x=>k.length-x.toNat) ?_ ⟨0,rfl,dI _,fun j a b hj=>by omega⟩
 ·exact this
 ·rintro x ⟨i,rfl,hi,hp⟩;rcases cV i k.length with hlt|hge
  ·have hx:k[i]?=some k[i]:=cw hlt;have hy:l[i]?=some l[i]:=cw (by omega)
   have hf:∀kn,Ŭ l k (Ø k) (i:Int) kn (fun z=>ifb (ige z (0:Int)) X Y) (fun _=>X)=if k[i]=l[i] then kn ((i:Int)+1) else if k[i]<l[i] then Y else X:=fun kn=>by
    unfold Ŭ;rw[Ò hlt,È hx,Î (by simp[ige,Ñ]; omega),È hy,ab4,À,Ë hlt (by omega)]
    by_cases h1:k[i]<l[i]
    ·rw[if_pos h1,if_neg (by omega),if_pos h1]; rfl
    ·rw[if_neg h1]
     by_cases h2:l[i]<k[i]
     ·rw[if_pos h2,if_neg (by omega),if_neg h1]; rfl
     ·rw[if_neg h2,if_pos (by omega)]; rfl
   by_cases he:k[i]=l[i]
   ·refine .inr ⟨(i:Int)+1,⟨i+1,by simp,hlt,fun j a b hj ha hb=>?_⟩,by omega,fun kn=>by rw[hf,if_pos he]⟩;rcases cV j i with h1|h1
    ·exact hp j a b h1 ha hb
    ·have:j=i:=by omega
     subst this;rw[hx] at ha; rw[hy] at hb;cases ha; cases hb;exact he
   ·refine .inl fun kn=>?_;rw[hf,if_neg he,lex_at hx hy hp he]
    by_cases h1:k[i]<l[i]
    ·rw[if_pos h1,if_pos h1]; rfl
    ·rw[if_neg h1,if_neg h1]; rfl
  ·refine .inl fun kn=>?_
   have:i=k.length:=by omega
   subst this;unfold Ŭ;rw[à,afE h fun j a b ha hb=>hp j a b (List.getElem?_eq_some_iff.1 ha).1 ha hb];rfl
abbrev stI (st:List Int×Nat×List Nat) (n:Nat):List Int×Int×Int×List Int:=(st.1,(st.2.1:Int),(n:Int),st.2.2.map fun(x:Nat)=>(x:Int))
def Yx (h:MOk m) {ids:List Int} (hi:ids.length≤8) {n N:Nat} (hn:n<N) (hN:N≤256) {st:List Int×Nat×List Nat} (h1:st.1.length≤8) (ho:st.2.2.length≤n) (hop:∀x∈st.2.2,x<n) (kn:List Int→Int→Int→List Int→Option ρ) (k0:Int×List Int→Option ρ) :
 ŭ (Ċ m.2) (N:Int) ids m.1.1.1 m.1.1.2 m.1.2.1 m.1.2.2.1 m.1.2.2.2.1 m.1.2.2.2.2.1 m.1.2.2.2.2.2 m.2 (stI st n).1 (stI st n).2.1 (stI st n).2.2.1 (stI st n).2.2.2 kn k0=kn (stI (Gr m ids st n) (n+1)).1 (stI (Gr m ids st n) (n+1)).2.1 (stI (Gr m ids st n) (n+1)).2.2.1 (stI (Gr m ids st n) (n+1)).2.2.2:=by
 have hcl:=oG ids n;dsimp only;unfold ŭ
 have hop':∀x∈st.2.2,x<9223372036854775808:=fun x hx=>by have:=hop x hx; omega
 have ho':(st.2.2.map fun(x:Nat)=>(x:Int)).length≤1000:=by rw[dv]; omega
 have e1:∀f:Int→Option ρ,ck ((n:Int)+(1:Int)) f=f ((n+1:Nat):Int):=fun f=>by rw[Ó (by omega) (by omega)]; simp
 rw[Ú (by simp[ilt]; omega),DN (by omega) (by omega),À];unfold Gr
 by_cases hgt:st.1.length<(ĉ ids n).length
 ·rw[Ú (by simp[igt,Ñ]; omega),if_pos (.inl hgt),e1]
 ·rw[Î (by simp[igt,Ñ]; omega)]
  have inner:∀K1 K2:Option ρ,Ê (fun(v53:Int) kk55=>Ŏ (n:Int) (Ø (st.2.2.map fun(x:Nat)=>(x:Int))) (st.2.2.map fun(x:Nat)=>(x:Int)) v53 (fun u54=>kk55 u54) (fun _=>ck ((n:Int)+(1:Int)) fun n38=>kn st.1 (st.2.1:Int) n38 (st.2.2.map fun(x:Nat)=>(x:Int))) (fun _=>Ê (fun(v49:Int×List Int) kk52=>ō (n:Int) (Ċ m.2) (Ø (Ċ m.2)) ids m.1.1.1 m.1.1.2 m.1.2.1 m.1.2.2.1 m.1.2.2.2.1 m.1.2.2.2.2.1 m.1.2.2.2.2.2 m.2 v49.1 v49.2 (fun u50 u51=>kk52 (u50,u51)) (fun z45=>ck ((n:Int)+(1:Int)) fun n46=>kn st.1 (st.2.1:Int) n46 z45) (fun z47=>ck ((n:Int)+(1:Int)) fun n48=>kn (ĉ ids n) (n:Int) n48 z47)) ((0:Int),st.2.2.map fun(x:Nat)=>(x:Int)))) (0:Int) =
   (fun s2=>kn (stI s2 (n+1)).1 (stI s2 (n+1)).2.1 (stI s2 (n+1)).2.2.1 (stI s2 (n+1)).2.2.2) (if st.2.2.any (afe n) then st else if nN (rU m (ĉ ids n)) then(st.1,st.2.1,st.2.2++[n]) else(ĉ ids n,n,st.2.2)):=fun _ _=>by
   rw[adb h (by omega) (by omega) ho',adc (by omega) (by omega) hop',e1,e1,e1]
   cases st.2.2.any (afe n) with
   |true=>rfl
   |false =>
    cases nN (rU m (ĉ ids n)) with
    |true=>simp
    |false=>rfl
  by_cases heq:(ĉ ids n).length=st.1.length
  ·rw[Ú (by simp[ieq,Ñ]; omega),inner none none,Î (show ilt (Ø (ĉ ids n)) (Ø st.1)=false by simp[ilt,Ñ]; omega),ade heq (by omega),e1]
   by_cases hlex:0≤ZJ (ĉ ids n) st.1
   ·rw[if_pos hlex,if_pos (.inr ⟨heq,hlex⟩)]
   ·rw[if_neg hlex,if_neg (show ¬(st.1.length<(ĉ ids n).length∨((ĉ ids n).length=st.1.length∧0≤ZJ (ĉ ids n) st.1)) from fun h=>h.elim hgt fun h=>hlex h.2)]
  ·rw[Î (by simp[ieq,Ñ]; omega),inner none none,if_neg (show ¬(st.1.length<(ĉ ids n).length∨((ĉ ids n).length=st.1.length∧0≤ZJ (ĉ ids n) st.1)) from fun h=>h.elim hgt fun h=>heq h.1)]
def ac7 {ids:List Int} {n:Nat} {st:List Int×Nat×List Nat} (hi:ids.length≤8) (h1:st.1.length≤8) (h2:st.2.2.length≤n) (h3:∀x∈st.2.2,x<n):(Gr m ids st n).1.length≤8∧(Gr m ids st n).2.2.length≤n+1∧∀x∈(Gr m ids st n).2.2,x<n+1:=by
 have hcl:=oG ids n;unfold Gr
 split
 ·exact⟨h1,by omega,fun x hx=>by have:=h3 x hx; omega⟩
 split
 ·exact⟨h1,by omega,fun x hx=>by have:=h3 x hx; omega⟩
 split
 ·refine⟨h1,by simp; omega,fun x hx=>?_⟩;rcases cE.1 hx with hx|hx
  ·have:=h3 x hx; omega
  ·rw[cI.1 hx]; omega
 ·exact⟨by dsimp only; omega,by dsimp only; omega,fun x hx=>by have:=h3 x hx; omega⟩
def WW {ids:List Int} (hi:ids.length≤8):∀n,(Gs m ids n).1.length≤8∧(Gs m ids n).2.2.length≤n∧∀x∈(Gs m ids n).2.2,x<n
 |0=>⟨hi,cz _,fun x hx=>by cases hx⟩
 |n+1=>by
  obtain⟨h1,h2,h3⟩:=WW hi n;have:=ac7 (m:=m) hi h1 h2 h3;unfold Gs at this ⊢;rw[List.range_succ,List.foldl_append];exact this
def pow8 {n:Nat} (h:n≤8):1≤2 ^ n∧2 ^ n≤256:=⟨Nat.one_le_pow _ _ (by decide),Nat.pow_le_pow_right (by decide) h⟩
def XN {ids:List Int} (hi:ids.length≤8):∀n,n≤256→(Gs m ids n).2.1≤256
 |0,_=>by have:=(pow8 hi).2; show 2 ^ ids.length-1≤256; omega
 |n+1,hn=>by
  have ih:=XN hi n (by omega);unfold Gs at ih ⊢;rw[List.range_succ,List.foldl_append];show(Gr m ids _ n).2.1≤256;unfold Gr
  split
  ·exact ih
  split
  ·exact ih
  split
  ·exact ih
  ·dsimp only; omega
def Wy (hs:In m.1) (hn:m.2.length≤1000) {ids:List Int} (hil:ids.length≤1000000):qU m ids=some (acN m ids):=by
 unfold qU wC acN;rw[mn hs hn,À]
 by_cases hc:Ļ m=0
 ·have h:=(ň m).1 hc;rw[Î (by simp[ine,hc]),if_neg (by simp[hc])]
  by_cases h8:8<ids.length
  ·rw[Ú (by simp[igt,Ñ]; omega),if_pos h8]
  ·have hi:ids.length≤8:=by omega
   obtain⟨p1,p2⟩:=pow8 hi;rw[Î (by simp[igt,Ñ]; omega),if_neg h8,adh h.good.size.compares (by omega)]
   cases ids.all (fun i=>(VZ m).contains i) with
   |false=>rfl
   |true =>
    rw[if_pos rfl,if_neg (by simp),adg (by omega)]
    by_cases hp:ids.Pairwise (·<·)
    ·have hsh:shlI .i64 (1:Int) (Ø ids)=((2 ^ ids.length:Nat):Int):=by
      unfold shlI;rw[Ñ,Int.toNat_natCast,Nat.min_eq_left (by show ids.length≤64; omega),Int.one_mul,show((2:Int) ^ ids.length)=((2 ^ ids.length:Nat):Int) by simp,ZS (by omega)]
     have e0:((2 ^ ids.length:Nat):Int)-1=((2 ^ ids.length-1:Nat):Int):=by omega
     rw[if_pos hp,if_neg (by simpa using hp),HS h,À,ď (by simp[ile,Ñ]),hsh,Ó (by omega) (by omega),e0]
     have loop:Ê (fun(v91:List Int×Int×Int×List Int) kk96=>ŭ (Ċ m.2) ((2 ^ ids.length-1:Nat):Int) ids m.1.1.1 m.1.1.2 m.1.2.1 m.1.2.2.1 m.1.2.2.2.1 m.1.2.2.2.2.1 m.1.2.2.2.2.2 m.2 v91.1 v91.2.1 v91.2.2.1 v91.2.2.2 (fun u92 u93 u94 u95=>kk96 (u92,u93,u94,u95)) (fun z89=>Ä (g9 ids z89.1) fun r90=>some (r90,(0:Int)))) (ids,((2 ^ ids.length-1:Nat):Int),(0:Int),[])=some (ĉ ids (Gs m ids (2 ^ ids.length-1)).2.1,0):=by
      refine Ę (fun x=>∃n:Nat,n≤2 ^ ids.length-1∧x=stI (Gs m ids n) n) (fun x=>2 ^ ids.length-1-x.2.2.1.toNat) ?_ ⟨0,dI _,rfl⟩;rintro x ⟨n,hn',rfl⟩;obtain⟨i1,i2,i3⟩:=WW (m:=m) hi n;rcases cV n (2 ^ ids.length-1) with hlt|hge
      ·refine .inr ⟨stI (Gs m ids (n+1)) (n+1),⟨n+1,hlt,rfl⟩,by dsimp only; omega,fun kn=>?_⟩;have:=Yx h hi hlt (by omega) i1 i2 i3 (fun a b c d=>kn (a,b,c,d)) (fun z89=>Ä (g9 ids z89.1) fun r90=>some (r90,(0:Int)));rw[this];unfold Gs;rw[List.range_succ,List.foldl_append]; rfl
      ·have:n=2 ^ ids.length-1:=by omega
       subst this;refine .inl fun kn=>?_;have hf:=XN (m:=m) hi (2 ^ ids.length-1) (by omega);dsimp only;unfold ŭ;rw[Î (by simp[ilt])];dsimp only;rw[DN (by omega) (by omega)]; rfl
     have h3:=adf h (ids:=ids) (by omega) (s:=2 ^ ids.length-1) (by omega) (some ([],(5:Int))) (some (ĉ ids (Gs m ids (2 ^ ids.length-1)).2.1,0));rw[loop,h3]
     split<;>rfl
    ·rw[if_neg hp,if_pos hp]
 ·rw[Ú (by simp[ine,hc]),if_pos hc]
end
def Ux (b:ġ) (x d:Int):Int:=match ji (Ö b) x d with|some j=>(j:Int)+1|none=>0
def Lj (b:ġ) (n:Int×Int):Int×Int:=if ű b≠0 then(0,ű b) else if Ux b n.1 n.2=0 then(0,5) else(Ux b n.1 n.2,0)
def Ll {b:ġ} (h:In b) (n:Int×Int):pv b n=some (Lj b n):=by
 have hl:=Nt h.size;unfold pv J6 Lj;rw[yw h.size h.num,À]
 by_cases hc:ű b=0
 ·rw[Î (by simp[ine,hc]),if_neg (show ¬(ű b≠0) from fun h=>h hc),OU h.size,À,show ï (Ö b) n=ï (Ö b) (n.1,n.2) from rfl,Uq (by omega),À];unfold Ux
  cases hx:ji (Ö b) n.1 n.2 with
  |none=>rfl
  |some j =>
   have:=(jS hx).1;simp only;rw[Î (by simp[ilt]),Ó (by omega) (by omega),if_neg (by omega)]
 ·rw[Ú (by simp[ine,hc]),if_pos hc]
def rD (b:ġ) (n:Int×Int):ġ:=(b.1,b.2.1,b.2.2.1,b.2.2.2.1,b.2.2.2.2.1,b.2.2.2.2.2++[n])
def aa7 {b:ġ} (h:Μ b) (n:Int×Int):xF (rD b n):=by
 have hs:=h.size;have:=h.nK;exact⟨hs.gauges,hs.uses,hs.loans,hs.compares,by simp[rD]; omega,hs.piles⟩
def age (b:ġ) (n:Int×Int):ġ×Int:=if ű b≠0 then(acB,ű b) else if ű (rD b n)≠0 then(acB,ű (rD b n)) else(rD b n,0)
def agd {b:ġ} (h:In b) (n:Int×Int):HM b n=some (age b n):=by
 have hs:=h.size;have h1:=hs.gauges; have h2:=hs.uses; have h3:=hs.loans; have h4:=hs.compares; have h5:=hs.looks;unfold HM Qe age;rw[yw hs h.num,À]
 by_cases hc:ű b=0
 ·have hg:=(χ b).1 hc;rw[Î (by simp[ine,hc]),Ù (by omega),Am.iff_true,Ù (by omega),Am.iff_true,Ù (by omega),Am.iff_true,Ù (by omega),Am.iff_true,Ù (by omega),Am.iff_true,if_neg (show ¬(ű b≠0) from fun h=>h hc)];refine Ħ b.2.2.2.2.1 (fun _=>b.2.2.2.2.1) _ rfl (fun i d hi hd kn=>?_) (fun kn=>?_)
  ·dsimp only;unfold uG;obtain⟨p1,p2⟩:=hs.piles d (List.mem_of_getElem? hd)
   have e1:b.2.2.2.2.1.set i d=b.2.2.2.2.1:=by
    obtain⟨h,rfl⟩:=cB.1 hd;exact List.set_getElem_self h
   rw[Ò hi,Š hi,Ė hd,Ù (by omega),Am.iff_true,Ù (by omega),Am.iff_true,Š hi,Ė hd,cO];rw[show(d.1,d.2.1,d.2.2.1,d.2.2.2)=d from rfl,e1,Š hi,iT hd,Ë hi (by omega)];rw[show(d.1,d.2.1,d.2.2.1,d.2.2.2.1,d.2.2.2.2)=d from rfl,e1]
  ·try dsimp only
   unfold uG;rw[à];dsimp only;rw[Ù (by simp only[List.length_singleton]; omega),Am.iff_true];rw[show Δ (b.1,b.2.1,b.2.2.1,b.2.2.2.1,b.2.2.2.2.1,b.2.2.2.2.2++[n])=Δ (rD b n) from rfl,yw (aa7 hg n) h.num,À]
   by_cases hc2:ű (rD b n)=0
   ·rw[Î (by simp[ine,hc2]),if_neg (show ¬(ű (rD b n)≠0) from fun h=>h hc2)];rfl
   ·rw[Ú (by simp[ine,hc2]),if_pos hc2];rfl
 ·rw[Ú (by simp[ine,hc]),if_pos hc];rfl
def yy (b:ġ) (n:Int×Int):ġ×Int:=if Ux b n.1 n.2≠0 then(b,0) else if ű (rD b n)≠0 then(acB,ű (rD b n)) else(rD b n,0)
structure Room (B:ġ):Prop where
 good:Μ B
 op:kh (iJ B) ((Ö B).length+1)=true
 num:∀g∈B.2.1,I64 g.2.2.2.2.1.1
def afG (B:ġ) (n:Int×Int):0≤Ux B n.1 n.2∧Ux B n.1 n.2<((Ö B).length+1:Nat):=by
 unfold Ux
 cases h:ji (Ö B) n.1 n.2 with
 |none=>dsimp only; omega
 |some j=>have:=(jS h).1; dsimp only; omega
def dstR (B:ġ) (s t:Int):Int:=dst (iJ B) ((Ö B).length+1) s t
def ivR (B:ġ) (n:Int×Int):Int×Int:=(-(dstR B (Ux B n.1 n.2) 0),dstR B 0 (Ux B n.1 n.2))
def NY {ρ α:Type} {l:List α} {i:Int} (h0:0≤i) {a:α} (h:l[i.toNat]?=some a) (f:α→Option ρ):ğ l i f=f a:=by
 obtain⟨n,rfl⟩:=gA h0;exact È (by simpa using h) f
def iO (x:List Int) (y:List Int) (l:Lk):List Int:=if gv x l.2.1=Ŗ then y else y.set l.1.toNat (min (gv y l.1) (l.2.2+gv x l.2.1))
def N9 (L:List Lk) (N:Nat) (x:List Int):List Int:=L.foldl (iO x) (List.replicate N Ŗ)
def exL (L:List Lk) (N:Nat) (to:Int):Nat→List Int
 |0=>(List.replicate N Ŗ).set to.toNat 0
 |k+1=>N9 L N (exL L N to k)
def lr (L:List Lk) (N:Nat) (to:Int) (most:Nat):List (List Int):=(List.range (most+1)).map (exL L N to)
section
variable {L:List Lk} {N:Nat}
def Fq (x y:List Int) (l:Lk):(iO x y l).length=y.length:=by unfold iO; split<;>simp
def Fs (x:List Int):∀(M:List Lk) (y:List Int),(M.foldl (iO x) y).length=y.length
 |[],y=>rfl
 |l::M,y=>by rw[fQ,Fs x M,Fq]
def Zg (x:List Int):(N9 L N x).length=N:=by unfold N9; rw[Fs]; simp
def V8 (to:Int) (k:Nat):(exL L N to k).length=N:=by
 cases k with
 |zero=>simp[exL]
 |succ k=>exact Zg _
def Lim (B:Int) (x:List Int):Prop:=∀v:Int,gv x v≠Ŗ→-B≤gv x v∧gv x v≤B
def gv_out {x:List Int} {v:Int} (h:¬v.toNat<x.length):gv x v=0:=by
 unfold gv;rw[List.getElem?_eq_none (by omega)];rfl
def Ka {B:Int} (hB:0≤B):Lim B (List.replicate N Ŗ):=by
 intro v hv
 by_cases h:v.toNat<N
 ·exfalso; apply hv;unfold gv;rw[List.getElem?_replicate,if_pos h];rfl
 ·rw[gv_out (by simpa using h)]; omega
def abi {B:Int} {y:List Int} (hy:Lim B y) {u:Int} (hu:0≤u) (hl:u.toNat<y.length) {a:Int} (ha:a≠Ŗ→-B≤a∧a≤B):Lim B (y.set u.toNat a):=by
 intro v hv
 by_cases h:v.toNat=u.toNat
 ·have:gv (y.set u.toNat a) v=a:=by
   unfold gv;rw[h,List.getElem?_set_self hl];rfl
  rw[this] at hv ⊢;exact ha hv
 ·have:gv (y.set u.toNat a) v=gv y v:=by
   unfold gv;rw[List.getElem?_set_ne (fun e=>h e.symm)]
  rw[this] at hv ⊢;exact hy v hv
def Xv (hS:i9 L N) {B:Int} (hB:0≤B) (hB2:B≤1000000000000000000) {x y:List Int} (hx:Lim B x) (hy:Lim (B+4503599627370496) y) (hl:y.length=N) {l:Lk} (hm:l∈L):Lim (B+4503599627370496) (iO x y l):=by
 unfold iO
 split
 ·exact hy
 ·rename_i hf;have h1:=hS.inr l hm;have h2:=hS.most l hm;have h3:=hx _ hf;refine abi hy h1.1.1 (by omega) fun ha=>?_
  by_cases h4:gv y l.1=Ŗ
  ·rw[h4] at ha ⊢
   have:min Ŗ (l.2.2+gv x l.2.1)=l.2.2+gv x l.2.1:=by unfold Ŗ; omega
   rw[this]; omega
  ·have:=hy _ h4;omega
def Xw (hS:i9 L N) {B:Int} (hB:0≤B) (hB2:B≤1000000000000000000) {x:List Int} (hx:Lim B x):∀(M:List Lk),(∀l∈M,l∈L)→∀y:List Int,y.length=N→Lim (B+4503599627370496) y→Lim (B+4503599627370496) (M.foldl (iO x) y)
 |[],_,y,_,hy=>hy
 |l::M,hM,y,hl,hy=>by
  rw[fQ];exact Xw hS hB hB2 hx M (fun m hm=>hM m (by simp[hm])) _ (by rw[Fq,hl]) (Xv hS hB hB2 hx hy hl (hM l (by simp)))
def Ba (hS:i9 L N) {to:Int} (ht:0≤to∧to<N):∀k:Nat,k≤200→Lim (k*4503599627370496) (exL L N to k)
 |0,_=>by
  unfold exL;exact abi (Ka (by omega)) ht.1 (by simp; omega) (fun _=>by omega)
 |k+1,hk=>by
  have:=Xw hS (B:=k*4503599627370496) (by omega) (by omega) (Ba hS ht k (by omega)) L (fun _ h=>h) (List.replicate N Ŗ) (by simp) (Ka (by omega));unfold exL N9
  have e:(((k+1:Nat):Int)*4503599627370496)=(k:Int)*4503599627370496+4503599627370496:=by push_cast; omega
  rw[e];exact this
def TW {ρ:Type} (hN:N≤1000) (K:List Int→Option ρ) {f:Int×List Int→(Int×List Int→Option ρ)→Option ρ}
 (hf:∀(v:Int×List Int) kk,f v kk=xQ (N:Int) v.1 v.2 (fun u34 u35=>kk (u34,u35)) K):Ê f ((0:Int),List.replicate N (0:Int))=K (List.replicate N Ŗ):=by
 refine Ħ (List.replicate N (0:Int)) (fun i=>List.replicate i Ŗ++List.replicate (N-i) (0:Int)) _ (by simp) (fun i a hi ha kn=>?_) (fun kn=>?_)
 ·rw[hf];dsimp only;unfold xQ;rw[List.length_replicate] at hi
  have hlen:(List.replicate i Ŗ++List.replicate (N-i) (0:Int)).length=N:=by simp; omega
  have e1:ilt (i:Int) (N:Int)=true:=decide_eq_true (by omega);rw[Ú e1,show ñ (List.replicate i Ŗ++List.replicate (N-i) (0:Int))=(N:Int) by unfold ñ; rw[hlen],ŵ (by omega) (by omega),jL (by rw[hlen]; omega),Ó (by omega) (by omega)];congr 2;rw[Int.toNat_natCast];rw[List.set_append_right _ _ (by simp),List.length_replicate,Nat.sub_self];rw[show N-i=(N-(i+1))+1 by omega,List.replicate_succ,List.set_cons_zero,List.replicate_succ'];simp
 ·rw[hf];dsimp only;unfold xQ;rw[List.length_replicate];have e1:ilt (N:Int) (N:Int)=false:=decide_eq_false (by omega);rw[Î e1];simp
def okN (hN:N≤1000) {ρ:Type} (x:Option ρ):ç ((ile (0:Int) (N:Int))&&(î (Int.toNat (N:Int)))) x=x:=by
 rw[ď];rw[cO,Ù (by omega),Bool.and_true];exact decide_eq_true (by omega)
def abh {ρ:Type} (hS:i9 L N) {B:Int} (hB:0≤B) (hB2:B≤1000000000000000000) {x:List Int} (hx:Lim B x) (hxl:x.length=N) (K:List Int→Option ρ) :
 Ê (fun(v20:(Val (.pair tI (.slice tI)))) kk23=>CD x L (Ø L) v20.1 v20.2 (fun u21 u22=>kk23 (u21,u22)) K) ((0:Int),List.replicate N Ŗ)=K (N9 L N x):=by
 have hl3:=hS.len;refine Ħ L (fun i=>(L.take i).foldl (iO x) (List.replicate N Ŗ)) _ rfl (fun i l hi hl kn=>?_) (fun kn=>?_)
 ·try dsimp only
  unfold CD;have hm:=List.mem_of_getElem? hl;have h1:=hS.inr l hm;have h2:=hS.most l hm;rw[Ò hi,È hl,uK h1.2.1 (by omega),take_succ hl,List.foldl_append,Ë hi (by omega)]
  have hlen:((L.take i).foldl (iO x) (List.replicate N Ŗ)).length=N:=by rw[Fs]; simp
  generalize (L.take i).foldl (iO x) (List.replicate N Ŗ)=y at hlen ⊢
  by_cases hf:gv x l.2.1=Ŗ
  ·rw[Î (by rw[hf]; rfl)];simp only[List.foldl_cons,List.foldl_nil];unfold iO;rw[if_pos hf]
  ·have h3:=hx _ hf;rw[Ú (bne_iff_ne.2 hf),show ñ y=(N:Int) by unfold ñ; rw[hlen],ŵ h1.1.1 h1.1.2,jL (by omega),uK h1.2.1 (by omega),Ó (by omega) (by omega),ŵ h1.1.1 h1.1.2,jL (by omega),Ë hi (by omega)];simp only[List.foldl_cons,List.foldl_nil];unfold iO;rw[if_neg hf,VW]
 ·try dsimp only
  unfold CD;rw[à,List.take_length];rfl
def adX {ρ:Type}:@Px ρ=@xQ ρ:=rfl
def Fo (to:Int) (m:Nat):(lr L N to m).length=m+1:=by simp[lr]
def Fp {to:Int} {m k:Nat} (hk:k≤m):(lr L N to m)[k]?=some (exL L N to k):=by
 unfold lr;rw[List.getElem?_map,List.getElem?_range (by omega)];rfl
def adW (hS:i9 L N) {to:Int} (ht:0≤to∧to<N) {most:Nat} (hm:most≤100):DE ((N:Int),L) to (most:Int)=some (lr L N to most):=by
 have hN:=hS.n60
 unfold DE Jn
 dsimp only;rw[okN (by omega),Int.toNat_natCast];refine(TW (by omega) _ (fun v kk=>by rw[Ñ,List.length_replicate])).trans ?_;rw[show ñ (List.replicate N Ŗ)=(N:Int) by simp[ñ],ŵ ht.1 ht.2,jL (by simp; omega)];refine Ħ (List.replicate most ()) (fun i=>lr L N to i) _ (by simp[lr,exL]) (fun i a hi ha kn=>?_) (fun kn=>?_)
 ·try dsimp only
  unfold Hz;rw[List.length_replicate] at hi;have e1:ilt (i:Int) (most:Int)=true:=decide_eq_true (by omega);rw[Ú e1,Ñ,Fo]
  have e2:(((i+1:Nat):Int)-1)=(i:Int):=by omega
  rw[e2,Ó (by omega) (by omega),show ñ (lr L N to i)=((i+1:Nat):Int) by unfold ñ; rw[Fo],ŵ (by omega) (by omega),Int.toNat_natCast,iT (Fp (Nat.le_refl i)),okN (by omega),Int.toNat_natCast];rw[adX];refine(TW (by omega) _ (fun v kk=>by rw[Ñ,List.length_replicate])).trans ?_;refine(abh hS (B:=i*4503599627370496) (by omega) (by omega) (Ba hS ht i (by omega)) (V8 _ _) _).trans ?_;rw[ď (Ù (by simp only[Fo,List.length_singleton]; omega)),Ó (by omega) (by omega)];congr 2;unfold lr;rw[List.range_succ (n:=i+1),List.map_append];rfl
 ·try dsimp only
  unfold Hz;rw[List.length_replicate];have e1:ilt (most:Int) (most:Int)=false:=decide_eq_false (by omega);rw[Î e1]
def OX (L:List Lk) (x:List Int) (good:Int→Bool) (u sum:Int):Option Nat:=L.findIdx? fun l=>l.1==u&&(decide (gv x l.2.1≠Ŗ)&&good (sum+l.2.2+gv x l.2.1))
def nF (L:List Lk) (rest:Nat→List Int) (good:Int→Bool):Nat→Int→Int→List Int→List Int
 |0,_,_,out=>out
 |k+1,u,sum,out=>match OX L (rest k) good u sum with
  |some i=>nF L rest good k (L[i]?.getD (0,0,0)).2.1 (sum+(L[i]?.getD (0,0,0)).2.2) (out++[(i:Int)])
  |none=>nF L rest good k u sum out
def folL {ρ:Type} (good:Int→Bool) (c0:Int) (c1:List (List Int)) (c2:List Lk) (c3:Int) (v0:Int) (v1:Int) (v2:Int) (v3:List Int) (kn:Int→Int→Int→List Int→Option ρ) (k0:Int×Int×List Int→Option ρ):Option ρ :=
 ifb (ilt v2 c3) (ğ c2 v2 fun e7=>ifb (ieq e7.1 v0) (ck (c0-(1:Int)) fun n8=>ğ c1 n8 fun e9=>ğ e9 e7.2.1 fun e10=>ifb (ine e10 (1152921504606846976:Int)) (ck (v1+e7.2.2) fun n11=>ck (c0-(1:Int)) fun n12=>ğ c1 n12 fun e13=>ğ e13 e7.2.1 fun e14=>ck (n11+e14) fun n15=>ifb (good n15) (ç (î ((List.length v3)+(List.length ([v2])))) (ck (v1+e7.2.2) fun n16=>k0 (e7.2.1,n16,(v3++([v2]))))) (ck (v2+(1:Int)) fun n17=>kn v0 v1 n17 v3)) (ck (v2+(1:Int)) fun n18=>kn v0 v1 n18 v3)) (ck (v2+(1:Int)) fun n19=>kn v0 v1 n19 v3)) (k0 (v0,v1,v3))
def afM {ρ:Type} (hS:i9 L N) (good:Int→Bool) {rest:List (List Int)} {k:Nat} {x:List Int} (hr:rest[k]?=some x) (hk:k≤100) (hx:Lim 1000000000000000000 x) (hxl:x.length=N) {u sum:Int} (hs : -1000000000000000000≤sum∧sum≤1000000000000000000) {out:List Int} (ho:out.length≤1000)
 (K:Int×Int×List Int→Option ρ):Ê (fun(v:Int×Int×Int×List Int) kk=>folL good ((k+1:Nat):Int) rest L (Ø L) v.1 v.2.1 v.2.2.1 v.2.2.2 (fun a b c d=>kk (a,b,c,d)) K) (u,sum,(0:Int),out) =
  match OX L x good u sum with|some i=>K ((L[i]?.getD (0,0,0)).2.1,sum+(L[i]?.getD (0,0,0)).2.2,out++[(i:Int)])|none=>K (u,sum,out):=by
 have hl3:=hS.len;refine Ę (fun v=>∃i:Nat,i≤L.length∧v=(u,sum,(i:Int),out)∧∀j l,j<i→L[j]?=some l→(l.1==u&&(decide (gv x l.2.1≠Ŗ)&&good (sum+l.2.2+gv x l.2.1)))=false) (fun v=>L.length-v.2.2.1.toNat) ?_ ⟨0,by omega,rfl,fun j l h=>by omega⟩;rintro v ⟨i,hi,rfl,hp⟩
 have e0:(((k+1:Nat):Int)-1)=(k:Int):=by omega
 rcases cV i L.length with h2|h2
 ·have hl:L[i]?=some L[i]:=cw h2;generalize L[i]=l at hl;have hm:=cG hl;have h1:=hS.inr l hm;have h4:=hS.most l hm
  have hstep:(l.1==u&&(decide (gv x l.2.1≠Ŗ)&&good (sum+l.2.2+gv x l.2.1)))=false→∃y,(∃i:Nat,i≤L.length∧y=(u,sum,(i:Int),out)∧∀j l,j<i→L[j]?=some l→(l.1==u&&(decide (gv x l.2.1≠Ŗ)&&good (sum+l.2.2+gv x l.2.1)))=false)∧(L.length-y.2.2.1.toNat<L.length-((u,sum,(i:Int),out):Int×Int×Int×List Int).2.2.1.toNat)∧y=(u,sum,(i:Int)+1,out):=fun hf =>
   ⟨_,⟨i+1,h2,by rw[show((i+1:Nat):Int)=(i:Int)+1 by push_cast; rfl],fun j m hj hm=>by
    rcases gw.1 hj with h|rfl
    ·exact hp j m h hm
    ·rw[hl] at hm; cases hm; exact hf⟩,by simp; omega,rfl⟩
  by_cases hf:(l.1==u&&(decide (gv x l.2.1≠Ŗ)&&good (sum+l.2.2+gv x l.2.1)))=true
  ·refine .inl fun kn=>?_
   have hfi:OX L x good u sum=some i:=by
    unfold OX;rw[List.findIdx?_eq_some_iff_getElem];obtain⟨hh,rfl⟩:=List.getElem?_eq_some_iff.1 hl;exact⟨h2,hf,fun j hj=>by have:=hp j _ hj (List.getElem?_eq_getElem (by omega)); rw[this]; simp⟩
   rw[hfi];simp only[Bool.and_eq_true,beq_iff_eq,decide_eq_true_eq] at hf;have h5:=hx _ hf.2.1;dsimp only;unfold folL
   rw[Ò h2,È hl,Ú (by simp[hf.1]),e0,Ó (by omega) (by omega),È hr,uK h1.2.1 (by omega),Ú (bne_iff_ne.2 hf.2.1),Ó (by omega) (by omega),Ó (by omega) (by omega),È hr,uK h1.2.1 (by omega),Ó (by omega) (by omega),Ú hf.2.2,
    ď (Ù (by simp; omega)),Ó (by omega) (by omega),hl]
   rfl
  ·have hf':=Bool.not_eq_true _▸hf;obtain⟨y,hy1,hy2,rfl⟩:=hstep hf';refine .inr ⟨_,hy1,hy2,fun kn=>?_⟩;dsimp only;unfold folL;rw[Ò h2,È hl,Ë h2 (by omega)]
   by_cases g1:l.1=u
   ·rw[Ú (by simp[g1]),e0,Ó (by omega) (by omega),È hr,uK h1.2.1 (by omega)]
    by_cases g2:gv x l.2.1=Ŗ
    ·rw[Î (by rw[g2]; rfl)]
    ·have h5:=hx _ g2
     have g3:good (sum+l.2.2+gv x l.2.1)=false:=by simpa[g1,g2] using hf'
     rw[Ú (bne_iff_ne.2 g2),Ó (by omega) (by omega),Ó (by omega) (by omega),È hr,uK h1.2.1 (by omega),Ó (by omega) (by omega),Î g3]
   ·rw[Î (by simpa using g1)]
 ·refine .inl fun kn=>?_
  obtain rfl:i=L.length:=by omega
  have hfi:OX L x good u sum=none:=by
   unfold OX;rw[List.findIdx?_eq_none_iff];intro l hl;obtain⟨j,hj,rfl⟩:=List.mem_iff_getElem.1 hl;exact hp j _ hj (List.getElem?_eq_getElem hj)
  rw[hfi];dsimp only;unfold folL;rw[à]
def folM {ρ:Type} (good:Int→Bool) (c0:List (List Int)) (c6:List Lk) (v0:Int) (v1:Int) (v2:Int) (v3:List Int) (kn:Int→Int→Int→List Int→Option ρ) (k0:List Int→Option ρ):Option ρ :=
 ifb (igt v1 (0:Int)) (Ê (fun(v22:Int×Int×Int×List Int) kk27=>folL good v1 c0 c6 (Ø c6) v22.1 v22.2.1 v22.2.2.1 v22.2.2.2 (fun u23 u24 u25 u26=>kk27 (u23,u24,u25,u26)) (fun z20=>ck (v1-(1:Int)) fun n21=>kn z20.1 n21 z20.2.1 z20.2.2)) (v0,v2,(0:Int),v3)) (k0 v3)
def afL {ρ:Type} (hS:i9 L N) (good:Int→Bool) {rest:List (List Int)} {R:Nat→List Int} {k0:Nat} (hk:k0≤100) (hr:∀k,k<k0→rest[k]?=some (R k)) (hx:∀k,k<k0→Lim 900000000000000000 (R k)∧(R k).length=N) (u:Int) (K:List Int→Option ρ) :
 Ê (fun(v:Int×Int×Int×List Int) kk=>folM good rest L v.1 v.2.1 v.2.2.1 v.2.2.2 (fun a b c d=>kk (a,b,c,d)) K) (u,(k0:Int),(0:Int),[])=K (nF L R good k0 u 0 []):=by
 have key:=sX (f:=fun(v:Int×Int×Int×List Int) kk=>folM good rest L v.1 v.2.1 v.2.2.1 v.2.2.2 (fun a b c d=>kk (a,b,c,d)) K) (F:=fun v=>K (nF L R good v.2.1.toNat v.1 v.2.2.1 v.2.2.2))
  (fun v=>∃k:Nat,v.2.1=k∧k≤k0∧(-(((k0-k:Nat):Int)*4503599627370496)≤v.2.2.1∧v.2.2.1≤((k0-k:Nat):Int)*4503599627370496)∧v.2.2.2.length≤k0-k) (fun v=>v.2.1.toNat) (fun v hv kn hk=>?_) (x:=(u,(k0:Int),0,[])) ⟨k0,rfl,cz _,by simp,by simp⟩
 ·rw[key]; simp
 ·obtain⟨u,k',sum,out⟩:=v;obtain⟨k,e,h1,h2,h3⟩:=hv;dsimp only at e h2 h3 hk ⊢;subst e;rw[Int.toNat_natCast] at hk ⊢;unfold folM
  cases k with
  |zero =>
   rw[Î (by rfl)];rfl
  |succ k =>
   rw[Ú (decide_eq_true (by omega))];have hh:=hx k (by omega)
   have hlim:Lim 1000000000000000000 (R k):=fun v hv=>by have:=hh.1 v hv; omega
   refine(afM hS good (hr k (by omega)) (by omega) hlim hh.2 (by omega) (by omega) _).trans ?_;unfold nF
   have e0:(((k+1:Nat):Int)-1)=(k:Int):=by omega
   cases hn:OX L (R k) good u sum with
   |none =>
    dsimp only;rw[e0,Ó (by omega) (by omega),hk _ ⟨k,rfl,by omega,by dsimp only; omega,by dsimp only; omega⟩ (by simp)];simp
   |some i =>
    have hi:i<L.length:=by
     unfold OX at hn;exact(List.findIdx?_eq_some_iff_getElem.1 hn).1
    have hl:L[i]?=some L[i]:=List.getElem?_eq_getElem hi;have h4:=hS.most L[i] (List.getElem_mem _);dsimp only;rw[hl];simp only[Option.getD_some];rw[e0,Ó (by omega) (by omega),hk _ ⟨k,rfl,by omega,by dsimp only; omega,by simp; omega⟩ (by simp)];simp
end
def Ac (L:List Lk):Int→Int→List Int→Int×Int×Bool
 |u,s,[]=>(u,s,true)
 |u,s,i::t=>if (L[i.toNat]?.getD (0,0,0)).1=u then Ac L (L[i.toNat]?.getD (0,0,0)).2.1 (s+(L[i.toNat]?.getD (0,0,0)).2.2) t else(0,0,false)
def Aa (L:List Lk) (i:Int):Bool:=decide (i<0)||decide ((L.length:Int)≤i)
def kI (L:List Lk) (l:List Int):Int:=if 80<l.length then 2 else if l.any (Aa L) then 1 else 0
def XW (u:Int) (w:Int×Int×Bool):Int:=if w.2.2=true∧w.1=u∧w.2.1<0 then 0 else 8
def ŕ (L:List Lk) (l:List Int):Int :=
 if kI L l≠0 then kI L l else match l with
 |[]=>8
 |i::_=>XW (L[i.toNat]?.getD (0,0,0)).1 (Ac L (L[i.toNat]?.getD (0,0,0)).1 0 l)
section
variable {L:List Lk} {N:Nat}
def Zb (N:Int) (hL:L.length≤1000) (l:List Int):uO (N,L) l=some (kI L l):=by
 unfold uO AM kI;dsimp only;rw[Ñ]
 by_cases h:80<l.length
 ·rw[Ú (decide_eq_true (by omega)),if_pos h]
 ·rw[Î (decide_eq_false (by omega)),if_neg h,←Ñ l];refine(ş l (Aa L) (fun z=>ifb (ige z 0) (some 1) (some 0)) (some 1) (some 0) (fun j=>by rw[show ige (j:Int) 0=true from decide_eq_true (by omega)]; rfl) (fun i a hi ha kn=>?_) (fun kn=>?_)).trans ?_
  ·try dsimp only
   unfold mg Aa;rw[Ò hi,È ha,Ë hi (by omega),Ñ,Đ,Đ]
   by_cases h1:a<0
   ·simp[ilt,h1]
   ·by_cases h2:(L.length:Int)≤a
    ·simp[ilt,ige,h1,h2]
    ·simp[ilt,ige,h1,h2]
  ·try dsimp only
   unfold mg;rw[à]
  ·cases l.any (Aa L)<;>rfl
def VY {l:List Int} (h:kI L l=0):l.length≤80∧∀i∈l,0≤i∧i.toNat<L.length:=by
 unfold kI at h
 split at h
 ·omega
 ·rename_i h1
  split at h
  ·omega
  ·rename_i h2;refine⟨by omega,fun i hi=>?_⟩;have:=dE.1 (dT.2 h2) i hi;simp[Aa] at this;omega
def ae6 (hS:i9 L N) (u:Int) {l:List Int} (h:kI L l=0):HJ ((N:Int),L) u l=some (Ac L u 0 l):=by
 obtain⟨hl,hi⟩:=VY h;unfold HJ Pv;dsimp only
 have:=sX (f:=fun(v7:Int×Int×Int) kk11=>t7 l (Ø l) L v7.1 v7.2.1 v7.2.2 (fun u8 u9 u10=>kk11 (u8,u9,u10)) (fun z5=>some (z5.1,z5.2.1,z5.2.2)) (fun z6=>some (z6.1,z6.2,true)))
  (F:=fun v=>some (Ac L v.1 v.2.1 (l.drop v.2.2.toNat))) (fun v=>∃i:Nat,v.2.2=i∧i≤l.length∧(-(i*4503599627370496)≤v.2.1∧v.2.1≤i*4503599627370496)) (fun v=>l.length-v.2.2.toNat) (fun v hv kn hk=>?_) (x:=(u,(0:Int),(0:Int))) ⟨0,rfl,by omega,by simp⟩
 ·exact this
 ·obtain⟨w,s,n⟩:=v;obtain⟨i,e,h1,h2⟩:=hv;dsimp only at e h2 hk ⊢;subst e;rw[Int.toNat_natCast] at hk ⊢;unfold t7;rcases Nat.lt_or_ge i l.length with h3|h3
  ·have ha:l[i]?=some l[i]:=List.getElem?_eq_getElem h3;have hd:l.drop i=l[i]::l.drop (i+1):=List.drop_eq_getElem_cons h3;rw[hd];have hx:=hi l[i] (List.getElem_mem _);generalize l[i]=a at ha hx;have hg:L[a.toNat]?=some L[a.toNat]:=List.getElem?_eq_getElem hx.2;have hm:=hS.most _ (List.mem_of_getElem? hg);generalize L[a.toNat]=x at hg hm;rw[Ò h3,È ha,NY hx.1 hg];unfold Ac;rw[hg];simp only[Option.getD_some]
   by_cases hc:x.1=w
   ·rw[Î (by rw[hc]; exact bne_self_eq_false' _),if_pos hc,Ó (by omega) (by omega),Ë h3 (by omega),hk _ ⟨i+1,by push_cast; rfl,h3,by dsimp only; push_cast; omega⟩ (by simp; omega)];simp
   ·rw[Ú (bne_iff_ne.2 hc),if_neg hc]
  ·obtain rfl:i=l.length:=by omega
   rw[à,List.drop_length];rfl
def abt {ρ α:Type} (x:α) (t:List α) (f:α→Option ρ):ğ (x::t) (0:Int) f=f x:=rfl
def M3 (hS:i9 L N) (l:List Int):ml ((N:Int),L) l=some (ŕ L l):=by
 have hl3:=hS.len;unfold ml rz ŕ;rw[kT hS,À,Î (by rfl),Zb _ (by omega),À]
 by_cases h:kI L l=0
 ·rw[Î (by rw[h]; rfl),if_neg (by simp[h])]
  cases l with
  |nil=>rw[Ñ]; rfl
  |cons i t =>
   have hx:=(VY h).2 i (by simp);have hg:L[i.toNat]?=some L[i.toNat]:=List.getElem?_eq_getElem hx.2;generalize L[i.toNat]=x at hg;rw[Ñ,Î (beq_eq_false_iff_ne.2 (by simp; omega)),abt,NY hx.1 hg,ae6 hS x.1 h,À];dsimp only;rw[hg];dsimp only[Option.getD_some];generalize Ac L x.1 0 (i::t)=w;obtain⟨e,sum,ok⟩:=w;unfold XW;dsimp only
   cases ok with
   |false=>rw[Ú (by rfl),if_neg (by simp)]
   |true =>
    rw[Î (by rfl)]
    by_cases h2:e=x.1
    ·rw[Î (by rw[h2]; exact bne_self_eq_false' _)]
     by_cases h3:sum<0
     ·rw[Î (decide_eq_false (by omega)),if_pos ⟨rfl,h2,h3⟩]
     ·rw[Ú (decide_eq_true (by omega)),if_neg (fun h=>h3 h.2.2)]
    ·rw[Ú (bne_iff_ne.2 h2),if_neg (fun h=>h2 h.2.1)]
 ·rw[Ú (bne_iff_ne.2 h),if_pos h]
end
def Zq {L:List Lk} {N:Nat} (h:i9 L N) (ho:kh L N=true):ng ((N:Int),L)=some ([],5):=by
 have hN:=h.n60;unfold ng CH;rw[kT h,À,Î (by rfl),tD h.links h.n1 (by omega),À,if_pos ho];rfl
def Yk (b:ġ) (n:Int×Int):Prop:=∃g∈b.2.1,g.1=n.1∧n.2∈ä b g
def Qs {b:ġ} (h:Μ b) {n:Int×Int}:Ux b n.1 n.2≠0↔Yk b n:=by
 unfold Ux;constructor
 ·intro hne
  cases hx:ji (Ö b) n.1 n.2 with
  |none=>rw[hx] at hne; simp at hne
  |some j =>
   have hm:=List.mem_of_getElem? (jS hx).2;unfold Ö at hm;obtain⟨g,hg,hd⟩:=List.mem_flatMap.1 hm;obtain⟨d,hd,e⟩:=List.mem_map.1 hd;simp only[Prod.mk.injEq] at e;obtain⟨e1,rfl⟩:=e;exact⟨g,hg,e1,hd⟩
 ·rintro⟨g,hg,e,hd⟩;obtain⟨i,hi,rfl⟩:=List.mem_iff_getElem.1 hg;obtain⟨k,hk,e2⟩:=List.mem_iff_getElem.1 hd;rw[←e,OV h (List.getElem?_eq_getElem hi) (by rw[List.getElem?_eq_getElem hk,e2])];dsimp only;omega
def aa8 {b:ġ} (n:Int×Int) (h':Μ (rD b n)):Yk (rD b n) n:=by
 have hu:=h'.looks n (by simp[rD]);unfold Z1 at hu
 split at hu
 ·omega
 obtain⟨g,hg,_⟩:=Ek h' hu;obtain⟨hm,e⟩:=iL hg;refine⟨g,hm,e,?_⟩;unfold ä;rw[Bx];unfold T1 rD;simp only[List.mem_append,List.mem_map,List.mem_filter];exact .inr ⟨n,⟨.inr (by simp),by simp[e]⟩,rfl⟩
def aaa {b:ġ} {n:Int×Int} (e:(yy b n).2=0):(yy b n=(b,0)∧Ux b n.1 n.2≠0)∨(yy b n=(rD b n,0)∧Μ (rD b n)∧Ux b n.1 n.2=0):=by
 unfold yy at e ⊢
 split
 ·rename_i h; exact .inl ⟨rfl,h⟩
 ·rename_i h1;rw[if_neg h1] at e
  split
  ·rename_i h2; rw[if_pos h2] at e; exact absurd e h2
  ·rename_i h2; exact .inr ⟨rfl,(χ _).1 (by simpa using h2),by simpa using h1⟩
def aa9 {b:ġ} {n:Int×Int} {f:Int→Int→Int} {z:Int}:Hist (rD b n) f z↔Hist b f z :=
 ⟨fun h=>⟨fun g hg=>by have:=h.gauge g hg; exact⟨this.hi,this.lo,this.down,this.loss⟩,h.cmp⟩,fun h=>⟨fun g hg=>by have:=h.gauge g hg; exact⟨this.hi,this.lo,this.down,this.loss⟩,h.cmp⟩⟩
inductive Wk (L:List Lk) (to:Int):Nat→Int→Int→Prop
 |nil:Wk L to 0 to 0
 |step {k:Nat} {v w m d:Int}:(v,w,m)∈L→Wk L to k w d→Wk L to (k+1) v (m+d)
section
variable {L:List Lk} {N:Nat}
def Wk.snoc {u v m:Int} (hl:(u,v,m)∈L):∀{k:Nat} {s d:Int},Wk L u k s d→Wk L v (k+1) s (d+m):=by
 intro k s d h
 induction h with
 |nil =>
  have:=Wk.step hl (Wk.nil (L:=L) (to:=v))
  have e:m+0=0+m:=by omega
  rw[e] at this;exact this
 | @step k a w m' d h1 h2 ih =>
  have:=Wk.step h1 ih
  have e:m'+(d+m)=m'+d+m:=by omega
  rw[e] at this;exact this
def Wk.bd (hS:i9 L N) {t:Int} {k:Nat} {s d:Int} (h:Wk L t k s d) : -(k*4503599627370496)≤d∧d≤k*4503599627370496:=by
 induction h with
 |nil=>omega
 | @step k v w m d h1 h2 ih =>
  have:=hS.most _ h1;dsimp only at this;push_cast;omega
def V4 {v:Int} (h0:0≤v) (h1:v<N):gv (List.replicate N Ŗ) v=Ŗ:=by
 unfold gv;rw[List.getElem?_replicate,if_pos (by omega)];rfl
def adE {B:Int} (hB:B≤1100000000000000000) {x:List Int} (hx:Lim B x) (v:Int):gv x v≤Ŗ:=by
 by_cases h:gv x v=Ŗ
 ·omega
 ·have:=hx v h; unfold Ŗ; omega
def Dw (hS:i9 L N) {B:Int} (hB:0≤B) (hB2:B≤1000000000000000000) {x:List Int} (hx:Lim B x) {v:Int} (h0:0≤v) (h1:v<N) :
 ∀(M:List Lk),(∀l∈M,l∈L)→∀y:List Int,y.length=N→Lim (B+4503599627370496) y →
  gv (M.foldl (iO x) y) v≤gv y v∧(∀w m,(v,w,m)∈M→gv x w≠Ŗ→gv (M.foldl (iO x) y) v≤m+gv x w) ∧
  (gv (M.foldl (iO x) y) v=gv y v∨∃w m,(v,w,m)∈M∧gv x w≠Ŗ∧gv (M.foldl (iO x) y) v=m+gv x w)
 |[],_,y,_,_=>⟨dK _,fun _ _ h=>by simp at h,.inl rfl⟩
 |l::M,hM,y,hl,hy=>by
  rw[fQ];have hlm:=hM l (by simp);obtain⟨i1,i2,i3⟩:=Dw hS hB hB2 hx h0 h1 M (fun m hm=>hM m (by simp[hm])) (iO x y l) (by rw[Fq,hl]) (Xv hS hB hB2 hx hy hl hlm);have hr:=hS.inr l hlm;have hyF:=adE (by omega) hy
  -- the element behind one link
  have key:gv (iO x y l) v≤gv y v∧(l.1=v→gv x l.2.1≠Ŗ→gv (iO x y l) v≤l.2.2+gv x l.2.1)∧(gv (iO x y l) v=gv y v∨(l.1=v∧gv x l.2.1≠Ŗ∧gv (iO x y l) v=l.2.2+gv x l.2.1)):=by
   unfold iO
   by_cases hf:gv x l.2.1=Ŗ
   ·rw[if_pos hf];exact⟨dK _,fun _ h=>absurd hf h,.inl rfl⟩
   ·rw[if_neg hf,qR hr.1.1 h0 (by omega)]
    by_cases hv:v=l.1
    ·rw[if_pos hv,hv];refine⟨by omega,fun _ _=>by omega,?_⟩
     by_cases hc:gv y l.1≤l.2.2+gv x l.2.1
     ·exact .inl (by omega)
     ·exact .inr ⟨rfl,hf,by omega⟩
    ·rw[if_neg hv];exact⟨dK _,fun h=>absurd h.symm hv,.inl rfl⟩
  obtain⟨k1,k2,k3⟩:=key;refine⟨by omega,fun w m hm hw=>?_,?_⟩
  ·rcases cF.1 hm with h|h
   ·subst h;have:=k2 rfl hw;dsimp only at this;omega
   ·exact i2 w m h hw
  ·rcases i3 with h|⟨w,m,h,hw,e⟩
   ·rcases k3 with h'|⟨h',hw,e⟩
    ·exact .inl (h.trans h')
    ·refine .inr ⟨l.2.1,l.2.2,?_,hw,h.trans e⟩;rw[←h']; simp
   ·exact .inr ⟨w,m,by simp[h],hw,e⟩
def QE (hS:i9 L N) {to:Int} (ht:0≤to∧to<N):∀k:Nat,k≤200→∀v:Int,0≤v→v<N →
 (gv (exL L N to k) v≠Ŗ→Wk L to k v (gv (exL L N to k) v))∧∀d,Wk L to k v d→gv (exL L N to k) v≤d∧gv (exL L N to k) v≠Ŗ
 |0,_,v,h0,h1=>by
  unfold exL;rw[qR ht.1 h0 (by simp; omega)]
  by_cases hv:v=to
  ·subst hv;rw[if_pos rfl];refine⟨fun _=>.nil,fun d hd=>?_⟩;cases hd;exact⟨dK _,by decide⟩
  ·rw[if_neg hv,V4 h0 h1];refine⟨fun h=>absurd rfl h,fun d hd=>?_⟩;cases hd;exact absurd rfl hv
 |k+1,hk,v,h0,h1=>by
  have hlim:=Ba hS ht k (by omega);obtain⟨i1,i2,i3⟩:=Dw hS (B:=k*4503599627370496) (by omega) (by omega) hlim h0 h1 L (fun _ h=>h) (List.replicate N Ŗ) (by simp) (Ka (by omega));have ih:=QE hS ht k (by omega);unfold exL N9;refine⟨fun hf=>?_,fun d hd=>?_⟩
  ·rcases i3 with h|⟨w,m,h,hw,e⟩
   ·rw[V4 h0 h1] at h; exact absurd h hf
   ·rw[e];have hwr:=(hS.inr _ h).2;exact .step h ((ih w hwr.1 hwr.2).1 hw)
  ·have hb:=Wk.bd hS hd
   cases hd with
   | @step k' v' w m d h h2 =>
    have hwr:=(hS.inr _ h).2;obtain⟨j1,j2⟩:=(ih w hwr.1 hwr.2).2 d h2;have:=i2 w m h j2;refine⟨by omega,?_⟩
    have hq:(m+d)≤1000000000000000000:=by push_cast at hb; omega
    intro hF;rw[hF] at this;unfold Ŗ at this;omega
def adY (hS:i9 L N) {to:Int} (ht:0≤to∧to<N) {k:Nat} (hk:k+1≤200) {u:Int} (hu:0≤u∧u<N) (hf:gv (exL L N to (k+1)) u≠Ŗ) :
 ∃w m,(u,w,m)∈L∧gv (exL L N to k) w≠Ŗ∧gv (exL L N to (k+1)) u=m+gv (exL L N to k) w:=by
 have hlim:=Ba hS ht k (by omega);obtain⟨_,_,i3⟩:=Dw hS (B:=k*4503599627370496) (by omega) (by omega) hlim hu.1 hu.2 L (fun _ h=>h) (List.replicate N Ŗ) (by simp) (Ka (by omega));have e:exL L N to (k+1)=L.foldl (iO (exL L N to k)) (List.replicate N Ŗ):=rfl;rw[e] at hf ⊢;rcases i3 with h|h
 ·rw[V4 hu.1 hu.2] at h; exact absurd h hf
 ·exact h
def Kw (hS:i9 L N) {to:Int} (ht:0≤to∧to<N) (good:Int→Bool):∀(k:Nat),k≤200→∀(u sum:Int) (out:List Int),0≤u→u<N→gv (exL L N to k) u≠Ŗ→good (sum+gv (exL L N to k) u)=true →
 ∃q,nF L (exL L N to) good k u sum out=out++q∧q.length=k∧(∀i∈q,Aa L i=false)∧∃s,Ac L u sum q=(to,s,true)∧good s=true
 |0,_,u,sum,out,h0,h1,hf,hg=>by
  have hu:u=to:=by
   have hw:=((QE hS ht 0 (by omega) u h0 h1).1 hf);generalize gv (exL L N to 0) u=y at hw;cases hw;rfl
  subst hu
  have e:gv (exL L N u 0) u=0:=by
   unfold exL;rw[qR ht.1 h0 (by simp; omega),if_pos rfl]
  rw[e,gy] at hg;exact⟨[],by simp[nF],rfl,by simp,sum,rfl,hg⟩
 |k+1,hk,u,sum,out,h0,h1,hf,hg=>by
  obtain⟨w,m,hl,hw,e⟩:=adY hS ht hk ⟨h0,h1⟩ hf;unfold nF OX
  cases hn:L.findIdx? (fun l=>l.1==u&&(decide (gv (exL L N to k) l.2.1≠Ŗ)&&good (sum+l.2.2+gv (exL L N to k) l.2.1))) with
  |none =>
   have:=dA.1 hn (u,w,m) hl;rw[e,←Int.add_assoc] at hg;simp[hw,hg] at this
  |some i =>
   obtain⟨hi,hp,_⟩:=List.findIdx?_eq_some_iff_getElem.1 hn;have hg2:L[i]?=some L[i]:=List.getElem?_eq_getElem hi;have hm:=List.mem_of_getElem? hg2;generalize L[i]=x at hp hg2 hm;simp only[Bool.and_eq_true,beq_iff_eq,decide_eq_true_eq] at hp;obtain⟨p1,p2,p3⟩:=hp;have hr:=(hS.inr x hm).2;obtain⟨q,q1,q2,q3,s,q4,q5⟩:=Kw hS ht good k (by omega) x.2.1 (sum+x.2.2) (out++[(i:Int)]) hr.1 hr.2 p2 p3;dsimp only;rw[hg2];simp only[Option.getD_some];refine⟨(i:Int)::q,by rw[q1]; simp,by simp[q2],fun j hj=>?_,s,?_,q5⟩
   ·rcases cF.1 hj with rfl|hj
    ·simp[Aa]; omega
    ·exact q3 j hj
   ·unfold Ac;rw[Int.toNat_natCast,hg2];simp only[Option.getD_some];rw[if_pos p1];exact q4
def adG {P:Int→Prop} {B:Int} (h:∃d,P d) (hB:∀d,P d→B≤d):∃d,P d∧∀e,P e→d≤e:=by
 obtain⟨d0,h0⟩:=h
 have:∀(n:Nat) (d:Int),P d→(d-B).toNat≤n→∃d,P d∧∀e,P e→d≤e:=by
  intro n
  induction n with
  |zero=>intro d hd hn; exact⟨d,hd,fun e he=>by have:=hB e he; have:=hB d hd; omega⟩
  |succ n ih =>
   intro d hd hn
   by_cases hx:∃e,P e∧e<d
   ·obtain⟨e,he,hl⟩:=hx;exact ih e he (by have:=hB e he; omega)
   ·exact⟨d,hd,fun e he=>by
     rcases gF e d with q|q
     ·exact absurd ⟨e,he,q⟩ hx
     ·exact q⟩
 exact this _ d0 h0 (cz _)
def Wl.cutK {S:Int→Prop} {vs:List Int} {u d:Int} (h:Wl L S vs u d):∀x∈u::vs,∃vs1 d1 k d2,Wl L S vs1 x d1∧(x::vs1) <:+ (u::vs)∧Wk L u k x d2∧d=d1+d2∧k≤vs.length:=by
 induction h with
 | @nil v hv =>
  intro x hx;simp at hx;subst hx;exact⟨[],0,0,0,.nil hv,List.suffix_refl _,.nil,by omega,by simp⟩
 | @step vs u v m d hw hl ih =>
  intro x hx;rcases cF.1 hx with rfl|hx
  ·exact⟨u::vs,d+m,0,0,.step hw hl,List.suffix_refl _,.nil,by omega,by simp⟩
  ·obtain⟨vs1,d1,k,d2,g1,g2,g3,g4,g5⟩:=ih x hx;exact⟨vs1,d1,k+1,d2+m,g1,g2.trans (List.suffix_cons _ _),g3.snoc hl,by omega,by simp; omega⟩
def YN (hS:i9 L N) (hno:kh L N=false):∃(k:Nat) (v d:Int),1≤k∧k≤N∧(0≤v∧v<N)∧Wk L v k v d∧d<0:=by
 have hn:=hS.n60;apply Classical.byContradiction;intro hc
 have hcl:∀{k:Nat} {v d:Int},1≤k→k≤N→(0≤v∧v<N)→Wk L v k v d→0≤d:=fun {k v d} h1 h2 h3 h4=>by
  rcases gF d 0 with q|q
  ·exact absurd ⟨k,v,d,h1,h2,h3,h4,q⟩ hc
  ·exact q
 have hinr:∀l∈L,-4503599627370496≤l.2.2:=fun l hl=>(hS.most l hl).1
 let P:Int→Int→Prop:=fun v d=>∃vs,Wl L (fun u=>0≤u∧u<N) vs v d∧(v::vs).Nodup
 have hP:∀v:Int,0≤v∧v<N→∃d,P v d∧∀e,P v e→d≤e:=fun v hv=>adG (B:=-(60*4503599627370496)) ⟨0,[],.nil hv,by simp⟩ (by
  rintro d ⟨vs,h1,h2⟩;have q1:=h1.lowM hinr;have q2:=h1.short hS.inr (fun w hw=>hw) h2
  have:((vs.length:Nat):Int)*4503599627370496≤60*4503599627370496:=by omega
  omega)
 have ho:kh L N=true:=by
  refine(kg hS.links (by omega)).2 ⟨fun v=>if hv:0≤v∧v<(N:Int) then Classical.choose (hP v hv) else 0,fun u v m hl=>?_⟩;have hr:=hS.inr _ hl;dsimp only at hr;obtain⟨⟨vs,hw,hnd⟩,hu2⟩:=Classical.choose_spec (hP u hr.1);obtain⟨_,hv2⟩:=Classical.choose_spec (hP v hr.2);have e1:(if hv:0≤u∧u<(N:Int) then Classical.choose (hP u hv) else 0)=Classical.choose (hP u hr.1):=dif_pos hr.1;have e2:(if hv:0≤v∧v<(N:Int) then Classical.choose (hP v hv) else 0)=Classical.choose (hP v hr.2):=dif_pos hr.2;dsimp only;rw[e1,e2];generalize Classical.choose (hP u hr.1)=a at *;generalize Classical.choose (hP v hr.2)=b at *
  by_cases hv:v∈u::vs
  ·obtain⟨vs1,d1,k,d2,g1,g2,g3,g4,g5⟩:=hw.cutK v hv;have hlen:=hw.short hS.inr (fun w hw=>hw) hnd;have:=hcl (by omega) (by omega) hr.2 (g3.snoc hl);have:=hv2 d1 ⟨vs1,g1,hnd.sublist g2.sublist⟩;omega
  ·have:=hv2 (a+m) ⟨u::vs,hw.step hl,eA.2 ⟨hv,hnd⟩⟩;omega
 rw[hno] at ho;cases ho
def kR (L:List Lk) (N:Nat) (k:Nat) (l:Lk):Bool:=decide (gv (exL L N l.1 k) l.2.1≠Ŗ)&&decide (l.2.2+gv (exL L N l.1 k) l.2.1<0)
def ZE (hS:i9 L N) (hno:kh L N=false):∃k,k<N∧∃l∈L,kR L N k l=true:=by
 have hn:=hS.n60;obtain⟨k,v,d,h1,h2,h3,h4,h5⟩:=YN hS hno
 cases h4 with
 |nil=>omega
 | @step k v w m d hl hk =>
  have hr:=hS.inr _ hl;obtain⟨e1,e2⟩:=(QE hS h3 k (by omega) w hr.2.1 hr.2.2).2 d hk;refine⟨k,by omega,(v,w,m),hl,?_⟩;simp only[kR,cA,decide_eq_true_eq];exact⟨e2,by omega⟩
def T7 (hS:i9 L N) {k:Nat} (hk:k<N) {l:Lk} (hl:l∈L) (hb:kR L N k l=true) :
 ∃q,nF L (exL L N l.1) (fun n=>ilt n 0) (k+1) l.1 0 []=q∧q.length=k+1∧(∀i∈q,Aa L i=false)∧ŕ L q=0∧∃u s,Ac L u 0 q=(u,s,true)∧s<0:=by
 have hn:=hS.n60;have hr:=hS.inr _ hl;simp only[kR,cA,decide_eq_true_eq] at hb;have hlim:=Ba hS hr.1 k (by omega);obtain⟨_,i2,_⟩:=Dw hS (B:=k*4503599627370496) (by omega) (by omega) hlim hr.1.1 hr.1.2 L (fun _ h=>h) (List.replicate N Ŗ) (by simp) (Ka (by omega));have h2:gv (exL L N l.1 (k+1)) l.1≤l.2.2+gv (exL L N l.1 k) l.2.1:=i2 l.2.1 l.2.2 hl hb.1
 have hne:gv (exL L N l.1 (k+1)) l.1≠Ŗ:=fun h=>by rw[h] at h2; unfold Ŗ at h2; omega
 obtain⟨q,q1,q2,q3,s,q4,q5⟩:=Kw hS hr.1 (fun n=>ilt n 0) (k+1) (by omega) l.1 0 [] hr.1.1 hr.1.2 hne (by rw[Int.zero_add]; exact decide_eq_true (by omega));rw[dL] at q1;have hs:s<0:=of_decide_eq_true q5;refine⟨q,q1,q2,q3,?_,l.1,s,q4,hs⟩
 have hany:q.any (Aa L)=false:=by
  rw[dE]
  exact fun i hi=>by rw[q3 i hi]; simp
 cases q with
 |nil=>simp at q2
 |cons i t =>
  have hi:=q3 i (by simp);simp only[Aa,f9,decide_eq_false_iff_not] at hi;have hg:L[i.toNat]?=some L[i.toNat]:=cw (by omega)
  have hfst:(L[i.toNat]?.getD (0,0,0)).1=l.1:=by
   unfold Ac at q4
   by_cases h:(L[i.toNat]?.getD (0,0,0)).1=l.1
   ·exact h
   ·rw[if_neg h] at q4; simp at q4
  have hix:kI L (i::t)=0:=by
   unfold kI;rw[if_neg (by omega),hany];rfl
  unfold ŕ;rw[hix,if_neg (by simp)];dsimp only;rw[hfst,q4];unfold XW;dsimp only;rw[if_pos ⟨rfl,rfl,hs⟩]
end
def WK {L:List Lk} {p:Int→Int} (hp:Pot L p):∀(l:List Int) (u s:Int),(∀i∈l,0≤i∧i.toNat<L.length)→(Ac L u s l).2.2=true→p (Ac L u s l).1-p u≤(Ac L u s l).2.1-s
 |[],u,s,_,_=>by simp[Ac]
 |i::t,u,s,hi,hw=>by
  have hx:=hi i (by simp);have hg:L[i.toNat]?=some L[i.toNat]:=List.getElem?_eq_getElem hx.2;have hm:=List.mem_of_getElem? hg;generalize L[i.toNat]=x at hg hm;unfold Ac at hw ⊢;rw[hg] at hw ⊢;simp only[Option.getD_some] at hw ⊢
  split at hw
  ·rename_i hc;rw[if_pos hc];have h1:=hp x.1 x.2.1 x.2.2 hm;have h2:=WK hp t x.2.1 (s+x.2.2) (fun j hj=>hi j (by simp[hj])) hw;rw[hc] at h1;omega
  ·cases hw
section
variable {L:List Lk} {N:Nat}
def ad6 {ρ:Type} (c0:List (List Int)) (c6:List Lk):@wW ρ c0 c6=folM (fun n=>ilt n 0) c0 c6:=rfl
def vH (L:List Lk) (N:Nat):List (List (List Int)):=(List.range N).map fun(n:Nat)=>lr L N n N
def Yt {L:List Lk} {N n:Nat} (h:n<N):(vH L N)[n]?=some (lr L N n N):=by
 unfold vH;rw[List.getElem?_map,List.getElem?_range h];rfl
def UE {ρ:Type} (hS:i9 L N) (K:List (List (List Int))→Option ρ) :
 Ê (fun(v56:Int×List (List (List Int))) kk59=>mQ (Ø (List.replicate N ([]:(Val (.slice (.slice tI)))))) (N:Int) L v56.1 v56.2 (fun u57 u58=>kk59 (u57,u58)) K) ((0:Int),(List.replicate N ([]:(Val (.slice (.slice tI))))))=K (vH L N):=by
 have hN:=hS.n60;refine Ħ (List.replicate N ()) (fun i=>((List.range i).map fun(n:Nat)=>lr L N n N)++List.replicate (N-i) ([]:List (List Int))) _ (by simp) (fun i a hi ha kn=>?_) (fun kn=>?_)
 ·try dsimp only
  unfold mQ;rw[List.length_replicate] at hi;rw[Ñ,List.length_replicate,Ú (decide_eq_true (by omega)),adW hS ⟨by omega,by omega⟩ (by omega),À]
  have hlen:(((List.range i).map fun(n:Nat)=>lr L N n N)++List.replicate (N-i) ([]:List (List Int))).length=N:=by simp; omega
  rw[show ñ (((List.range i).map fun(n:Nat)=>lr L N n N)++List.replicate (N-i) ([]:List (List Int)))=(N:Int) by unfold ñ; rw[hlen],ŵ (by omega) (by omega),Int.toNat_natCast]
  have hget:(((List.range i).map fun(n:Nat)=>lr L N n N)++List.replicate (N-i) ([]:List (List Int)))[i]?=some []:=by
   rw[fD (by simp),gB,if_pos (by simp; omega)]
  rw[iT hget,Ó (by omega) (by omega)];congr 2;rw[fZ _ _ (by simp),fC,ff]
  have e:N-i=(N-(i+1))+1:=by omega
  rw[e,fN];simp
 ·try dsimp only
  unfold mQ;rw[Ñ,List.length_replicate,List.length_replicate,Î (decide_eq_false (by omega))];unfold vH;simp
def Rw {ρ:Type} (hS:i9 L N) {k:Nat} (hk:k<N) (k0:Unit→Option ρ) (k1:Int×List Int→Option ρ) (k2:Unit→Option ρ) :
 Ê (fun(v48:Int) kk50=>mP ((k:Int)+1) L (Ø L) (N:Int) L (vH L N) v48 (fun u49=>kk50 u49) k0 k1 k2) (0:Int) =
  match L.find? (kR L N k) with|some l=>k1 (0,nF L (exL L N l.1) (fun n=>ilt n 0) (k+1) l.1 0 [])|none=>k2 ():=by
 have hN:=hS.n60;have hl3:=hS.len;rw[QA];refine(jr L (kR L N k) (fun j=>match L[j.toNat]? with|some l=>k1 (0,nF L (exL L N l.1) (fun n=>ilt n 0) (k+1) l.1 0 [])|none=>k2 ()) (k2 ()) (fun i l hi hl kn=>?_) (fun kn=>?_)).trans ?_
 ·try dsimp only
  unfold mP;have hm:=List.mem_of_getElem? hl;have hr:=hS.inr l hm;have hmo:=hS.most l hm
  have hto:((l.1.toNat:Nat):Int)=l.1:=by omega
  have hg:(vH L N)[l.1.toNat]?=some (lr L N l.1 N):=by rw[Yt (by omega),hto]
  have hol:ñ (vH L N)=(N:Int):=by simp[ñ,vH]
  have hlim:=Ba hS hr.1 k (by omega) l.2.1;rw[Ò hi,È hl,hol,ŵ hr.1.1 hr.1.2,iT hg,show((k:Int)+1-1)=(k:Int) by omega,Ó (by omega) (by omega),È (Fp (by omega)),uK hr.2.1 (by rw[V8]; omega)];unfold kR
  by_cases h1:gv (exL L N l.1 k) l.2.1=Ŗ
  ·rw[Ú (beq_iff_eq.2 h1),Ë hi (by omega),if_neg (by simp[h1])]
  ·have hb:=hlim h1;rw[Î (beq_eq_false_iff_ne.2 h1),Ó (by omega) (by omega)]
   by_cases h2:l.2.2+gv (exL L N l.1 k) l.2.1<0
   ·rw[Î (decide_eq_false (by omega)),Î (decide_eq_false (by omega)),ŵ hr.1.1 hr.1.2,iT hg,if_pos (by simp[h1,h2]),ad6,cO,hl];have hex:∀j,j<k+1→(lr L N l.1 N)[j]?=some (exL L N l.1 j):=fun j hj=>Fp (by omega)
    have hx:∀j,j<k+1→Lim 900000000000000000 (exL L N l.1 j)∧(exL L N l.1 j).length=N:=fun j hj=>⟨fun w hw=>by
     have:=Ba hS hr.1 j (by omega) w hw; omega,V8 _ _⟩
    have:=afL hS (fun n=>ilt n 0) (rest:=lr L N l.1 N) (R:=exL L N l.1) (k0:=k+1) (by omega) hex hx l.1 (fun z=>k1 (0,z));rw[show(((k+1:Nat):Int))=(k:Int)+1 by push_cast; rfl] at this;exact this
   ·rw[Ú (decide_eq_true (by omega)),Ë hi (by omega),if_neg (by simp[h1,h2])]
 ·try dsimp only
  unfold mP;rw[à]
 ·cases h:L.findIdx? (kR L N k) with
  |none=>rfl
  |some j=>dsimp only; rw[Int.toNat_natCast]
def acU (hS:i9 L N) (hno:kh L N=false):∃(K:Nat) (l:Lk),K<N∧(∀k,k<K→∀x∈L,kR L N k x=false)∧L.find? (kR L N K)=some l∧ng ((N:Int),L)=some (nF L (exL L N l.1) (fun n=>ilt n 0) (K+1) l.1 0 [],0):=by
 have hN:=hS.n60;obtain⟨K0,hK0,l0,hl0,hb0⟩:=ZE hS hno
 -- the first number of links
 have hex:∃K,K≤K0∧(∃l∈L,kR L N K l=true)∧∀k,k<K→∀x∈L,kR L N k x=false:=by
  have:∀n:Nat,(∀k,k<n→∀x∈L,kR L N k x=false)∨∃K,K<n∧(∃l∈L,kR L N K l=true)∧∀k,k<K→∀x∈L,kR L N k x=false:=by
   intro n
   induction n with
   |zero=>exact .inl fun k hk=>by omega
   |succ n ih =>
    rcases ih with h|⟨K,h1,h2⟩
    ·by_cases hx:∃l∈L,kR L N n l=true
     ·exact .inr ⟨n,by omega,hx,h⟩
     ·refine .inl fun k hk x hxm=>?_;rcases fS (Nat.le_of_lt_succ hk) with h1|rfl
      ·exact h k h1 x hxm
      ·exact dT.2 fun e=>hx ⟨x,hxm,e⟩
    ·exact .inr ⟨K,by omega,h2⟩
  rcases this (K0+1) with h|⟨K,h1,h2,h3⟩
  ·have:=h K0 (by omega) l0 hl0;rw[hb0] at this; cases this
  ·exact⟨K,by omega,h2,h3⟩
 obtain⟨K,hK,⟨l1,hl1,hb1⟩,hfirst⟩:=hex
 obtain⟨l,hl⟩:∃l,L.find? (kR L N K)=some l:=by
  cases h:L.find? (kR L N K) with
  |none=>have:=dU.1 h l1 hl1; exact absurd hb1 this
  |some l=>exact⟨l,rfl⟩
 refine⟨K,l,by omega,hfirst,hl,?_⟩;unfold ng CH;rw[kT hS,À,Î (by rfl),tD hS.links hS.n1 (by omega),À,if_neg (by simp[hno]),Î (by rfl),okN (by omega),Int.toNat_natCast];refine(UE hS _).trans ?_;refine Ę (fun v=>∃k:Nat,k≤K∧v=(k:Int)+1) (fun v=>(K+2)-v.toNat) ?_ ⟨0,by omega,rfl⟩;rintro v ⟨k,hk,rfl⟩;rcases Nat.lt_or_eq_of_le hk with h|rfl
 ·refine .inr ⟨((k+1:Nat):Int)+1,⟨k+1,h,rfl⟩,by omega,fun kn=>?_⟩;unfold qC;refine(Rw hS (by omega) _ _ _).trans ?_
  have hnone:L.find? (kR L N k)=none:=dU.2 fun x hx=>by rw[hfirst k h x hx]; simp
  rw[hnone];dsimp only;rw[Ó (by omega) (by omega)];congr 1
 ·refine .inl fun kn=>?_;unfold qC;refine(Rw hS (by omega) _ _ _).trans ?_;rw[hl]
end
def aaf (L:List Lk) (N:Nat):List (Int×Int):=(List.range N).map fun(n:Nat)=>(-(dst L N n 0),dst L N 0 n)
section
variable {L:List Lk} {N:Nat}
def Yw {n:Nat} (h:n<N):(aaf L N)[n]?=some (-(dst L N n 0),dst L N 0 n):=by
 unfold aaf;rw[List.getElem?_map,List.getElem?_range h];rfl
def aes (hS:i9 L N) (ht:Wx L N) (ho:kh L N=true):tf ((N:Int),L)=some (aaf L N,0):=by
 have hN:=hS.n60;have hN1:=hS.n1;unfold tf Jt;rw[aep hS (fun n hn=>by simp at hn) (by simp),À,if_pos ho,Î (by rfl),Uh hS.links hS.n1 (by omega) ho ⟨by omega,by omega⟩,À,okN (by omega),Int.toNat_natCast];have hlen0:(xB L N 0).length=N:=K7 0;refine Ħ (List.replicate N ()) (fun i=>((List.range i).map fun(n:Nat)=>dst L N n 0)++List.replicate (N-i) (0:Int)) _ (by simp) (fun i a hi ha kn=>?_) (fun kn=>?_)
 ·try dsimp only
  unfold qB;rw[List.length_replicate] at hi;rw[Ñ,List.length_replicate,Ú (decide_eq_true (by omega)),Uh hS.links hS.n1 (by omega) ho ⟨by omega,by omega⟩,À,uK (by omega) (by rw[K7]; simp; omega)]
  have hlen:(((List.range i).map fun(n:Nat)=>dst L N n 0)++List.replicate (N-i) (0:Int)).length=N:=by simp; omega
  rw[show ñ (((List.range i).map fun(n:Nat)=>dst L N n 0)++List.replicate (N-i) (0:Int))=(N:Int) by unfold ñ; rw[hlen],ŵ (by omega) (by omega),Int.toNat_natCast]
  have hget:(((List.range i).map fun(n:Nat)=>dst L N n 0)++List.replicate (N-i) (0:Int))[i]?=some 0:=by
   rw[fD (by simp),gB,if_pos (by simp; omega)]
  rw[iT hget,Ó (by omega) (by omega)];congr 2;rw[fZ _ _ (by simp),fC,ff]
  have e:N-i=(N-(i+1))+1:=by omega
  rw[e,fN];simp[dst]
 ·try dsimp only
  unfold qB;rw[Ñ,List.length_replicate,List.length_replicate,Î (decide_eq_false (by omega))]
  have e0:((List.range N).map fun(n:Nat)=>dst L N n 0)++List.replicate (N-N) (0:Int)=(List.range N).map fun(n:Nat)=>dst L N n 0:=by simp
  rw[e0];refine Ħ (List.replicate N ()) (fun i=>(List.range i).map fun(n:Nat)=>(-(dst L N n 0),dst L N 0 n)) _ (by simp) (fun i a hi ha kn=>?_) (fun kn=>?_)
  ·try dsimp only
   unfold qA;rw[List.length_replicate] at hi
   have hget:((List.range N).map fun(n:Nat)=>dst L N n 0)[i]?=some (dst L N i 0):=by
    rw[dY,fO hi]; rfl
   have hb:=dst_bd hS ht ho (s:=(i:Int)) (t:=0) ⟨by omega,by omega⟩ ⟨by omega,by omega⟩;rw[Ñ,hlen0,Ú (decide_eq_true (by omega)),show ñ ((List.range N).map fun(n:Nat)=>dst L N n 0)=(N:Int) by simp[ñ],ŵ (by omega) (by omega),cO,iT hget,Ó (by omega) (by omega),uK (by omega) (by rw[hlen0]; simp; omega),ď (Ù (by simp only[dv,fE,dz]; omega)),Ó (by omega) (by omega),Int.zero_sub];congr 2;rw[fC,ff];rfl
  ·try dsimp only
   unfold qA;rw[Ñ,hlen0,List.length_replicate,Î (decide_eq_false (by omega))];rfl
end
abbrev nT (m:œ) (w:Way):Nat:=(Ö (trP m w)).length+1
abbrev sT (m:œ) (w:Way):List Lk:=iJ (trP m w)
def zX (L:List Lk) (N:Nat):List Int:=((ng ((N:Int),L)).getD ([],0)).1
def T8 {L:List Lk} {N:Nat} (hS:i9 L N) (hno:kh L N=false):ng ((N:Int),L)=some (zX L N,0)∧ŕ L (zX L N)=0∧(zX L N).length≤N:=by
 obtain⟨K,l,h1,_,h3,h4⟩:=acU hS hno;obtain⟨q,q1,q2,_,q4,_⟩:=T7 hS h1 (eX h3) (fU h3)
 have e:zX L N=q:=by unfold zX; rw[h4,q1]; rfl
 rw[e];exact⟨by rw[h4,q1],q4,by omega⟩
section
variable {m:œ} {w:Way} {ρ:Type}
def WR (n:Nat):(((n:Int)+1,iJ (trP m w)):Sys)=(((n+1:Nat):Int),iJ (trP m w)):=by simp
def Yi (m:œ):List (List Int)×Int:=if Ļ m≠0 then([],Ļ m) else if nN m then([],5) else((Ċ m.2).map fun w=>zX (sT m w) (nT m w),0)
def aev (hs:In m.1) (hn:m.2.length≤1000):DC m=some (Yi m):=by
 unfold DC Jc Yi;rw[mn hs hn,À]
 by_cases hc:Ļ m=0
 ·have h:=(ň m).1 hc;have hl2:=pN h;have hm:((((m.1.1.1,m.1.1.2),m.1.2.1,m.1.2.2.1,m.1.2.2.2.1,m.1.2.2.2.2.1,m.1.2.2.2.2.2),m.2):œ)=m:=rfl;rw[Î (by simp[ine,hc]),if_neg (by simp[hc]),HS h,À];refine J9 (Ċ m.2) (fun i=>((Ċ m.2).take i).map fun w=>zX (sT m w) (nT m w)) _ (fun i=>∀w∈(Ċ m.2).take i,ka m w=false) rfl (fun w hw=>by simp at hw) (fun i x hi hx hp kn=>?_) (fun hp kn=>?_)
  ·try dsimp only
   unfold qv;have hg:=tz h (nl hx);rw[Ò hi,È hx,hm,mq h (nl hx),À,Lg h (nl hx),À];dsimp only;rw[WR]
   cases he:ka m x with
   |true =>
    refine .inl ?_;rw[Zq hg.sys he,À];have:nN m=true:=dg.2 ⟨x,cG hx,he⟩;rw[this]; rfl
   |false =>
    refine .inr ⟨fun w hw=>?_,?_⟩
    ·rw[take_succ hx] at hw;rcases cE.1 hw with hw|hw
     ·exact hp w hw
     ·rw[cI.1 hw]; exact he
    ·rw[(T8 hg.sys he).1,À,Î (by rfl),ď (Ù (by simp; omega)),Ë hi (by omega),take_succ hx,ff]; rfl
  ·rw[fu] at hp
   try dsimp only
   unfold qv
   have:nN m=false:=dE.2 fun w hw=>by rw[show ka m w=false from hp w hw]; simp
   rw[à,fu,this]; rfl
 ·rw[Ú (by simp[ine,hc]),if_pos hc]
def uU (m:œ) (chains:List (List Int)):Bool:=(List.range (Ċ m.2).length).all fun i=>match (Ċ m.2)[i]?,chains[i]? with|some w,some c=>decide (ŕ (sT m w) c=0)|_,_=>false
def mb (m:œ) (chains:List (List Int)):Int:=if Ļ m≠0 then Ļ m else if chains.length≠(Ċ m.2).length then 8 else if uU m chains then 0 else 8
def DY (hs:In m.1) (hn:m.2.length≤1000) (chains:List (List Int)):jt m chains=some (mb m chains):=by
 unfold jt ro mb;rw[mn hs hn,À]
 by_cases hc:Ļ m=0
 ·have h:=(ň m).1 hc;have hl2:=pN h;have hm:((((m.1.1.1,m.1.1.2),m.1.2.1,m.1.2.2.1,m.1.2.2.2.1,m.1.2.2.2.2.1,m.1.2.2.2.2.2),m.2):œ)=m:=rfl;rw[Î (by simp[ine,hc]),if_neg (by simp[hc]),HS h,À]
  by_cases hl:chains.length=(Ċ m.2).length
  ·rw[Î (by simp[ine,Ñ]; omega),if_neg (by simp[hl])];refine eo (Xu (Ċ m.2).length (fun i=>match (Ċ m.2)[i]?,chains[i]? with|some w,some c=>decide (ŕ (sT m w) c=0)|_,_=>false) (some 8) (some 0) (fun i hi kn=>?_) (fun kn=>?_)) ?_
   ·have hx:(Ċ m.2)[i]?=some (Ċ m.2)[i]:=cw hi;have hx2:chains[i]?=some chains[i]:=cw (by omega)
    try dsimp only
    unfold iX;rw[Ò hi,È hx,hm,mq h (nl hx),À,Lg h (nl hx),À,È hx2];dsimp only;rw[WR,M3 (tz h (nl hx)).sys,À,hx,hx2,Đ,Ë hi (by omega)];dsimp only
    by_cases he:ŕ (sT m (Ċ m.2)[i]) chains[i]=0
    ·rw[if_neg (by simp[ine,he]),if_pos (by simpa using he)]
    ·rw[if_pos (by simp[ine,he]),if_neg (by simpa using he)]
   ·try dsimp only
    unfold iX;rw[à]
   ·unfold uU
    cases(List.range (Ċ m.2).length).all fun i=>match (Ċ m.2)[i]?,chains[i]? with|some w,some c=>decide (ŕ (sT m w) c=0)|_,_=>false<;>rfl
  ·rw[Ú (by simp[ine,Ñ]; omega),if_pos hl]
 ·rw[Ú (by simp[ine,hc]),if_pos hc]
def Lm (m:œ) (w:Way):Bool×Int:=if rg m w≠0 then(false,rg m w) else(ka m w,0)
def WB (hs:In m.1) (hn:m.2.length≤1000) (hw:∀l∈w,l.length≤100000):qV m w=some (Lm m w):=by
 unfold qV wD Lm;rw[Lb hs hn hw,À]
 by_cases hc:rg m w=0
 ·obtain⟨h,ho⟩:=pB.1 hc;rw[Î (by simp[ine,hc]),if_neg (by simp[hc]),pw h ho]; rfl
 ·rw[Ú (by simp[ine,hc]),if_pos hc]
def FE (m:œ) (w:Way):ġ×Int:=if rg m w≠0 then(acB,rg m w) else(trP m w,0)
def Uo (hs:In m.1) (hn:m.2.length≤1000) (hw:∀l∈w,l.length≤100000):oh m w=some (FE m w):=by
 unfold oh tS FE;rw[Lb hs hn hw,À]
 by_cases hc:rg m w=0
 ·obtain⟨h,ho⟩:=pB.1 hc;rw[Î (by simp[ine,hc]),if_neg (by simp[hc]),mq h ho]; rfl
 ·rw[Ú (by simp[ine,hc]),if_pos hc]; rfl
def WhoP (m:œ) (w:Way) (x d:Int):Int×Int:=if rg m w≠0 then(0,rg m w) else if xi m.1 x d≠0 then(0,xi m.1 x d) else(iy m.2 w x d,0)
def agc (hs:In m.1) (hn:m.2.length≤1000) (hw:∀l∈w,l.length≤100000) (x d:Int):QB m w x d=some (WhoP m w x d):=by
 unfold QB Vh WhoP;rw[Lb hs hn hw,À]
 by_cases hc:rg m w=0
 ·obtain⟨h,ho⟩:=pB.1 hc;rw[Î (by simp[ine,hc]),if_neg (by simp[hc]),Qo hs.size.gauges,À]
  by_cases hk:xi m.1 x d=0
  ·rw[Î (by simp[ine,hk]),if_neg (by simp[hk]),h.who ho]; rfl
  ·rw[Ú (by simp[ine,hk]),if_pos hk]
 ·rw[Ú (by simp[ine,hc]),if_pos hc]
def Kc (b:ġ) (n:Int×Int):(Int×Int)×Int:=if (yy b n).2≠0 then((0,0),(yy b n).2) else(ivR (yy b n).1 n,0)
def Z9 {b:ġ} (h:Room b) {n:Int×Int} (e:(yy b n).2=0):Room (yy b n).1∧Yk (yy b n).1 n:=by
 rcases aaa e with⟨h1,h2⟩|⟨h1,h2,_⟩
 ·rw[h1];exact⟨h,(Qs h.good).1 h2⟩
 ·rw[h1];refine⟨⟨h2,?_,h.num⟩,aa8 n h2⟩;obtain⟨f,z,hh⟩:=(Sf h.good).1 h.op;exact(Sf h2).2 ⟨f,z,aa9.2 hh⟩
def Kb {B:ġ} (h:Room B) {n:Int×Int} (hn:Yk B n) (K:(Int×Int)×Int→Option ρ) :
 (Ä (pv B n) fun r3=>Ä (ic B) fun r4=>Ä (tf r4.1) fun r5=>ifb (ine r5.2 (0:Int)) (K (((0:Int),(0:Int)),r5.2)) (ğ r5.1 r3.1 fun e6=>K (e6,(0:Int))))=K (ivR B n,0):=by
 have hI:In B:=⟨h.good.size,h.num⟩;have hi:=(Qs h.good).2 hn;have hr:=afG B n;have hsp:=aes h.good.sys h.good.tied h.op;rw[Ll hI,À,Lj,if_neg (by simp[(χ _).2 h.good]),if_neg hi,Up hI,À,Q3,if_neg (by simp[(χ _).2 h.good])];dsimp only;rw[show((((Ö B).length:Int)+1,iJ B):Sys)=((((Ö B).length+1:Nat):Int),iJ B) by simp,hsp,À,Î (by rfl)];obtain⟨k,hk⟩:∃k:Nat,Ux B n.1 n.2=k:=⟨(Ux B n.1 n.2).toNat,by omega⟩;rw[hk,È (Yw (by omega))];unfold ivR dstR;rw[hk]
def abj {b:ġ} (h:Room b) (n:Int×Int):yd b n=some (Kc b n):=by
 have hI:In b:=⟨h.good.size,h.num⟩;have hc:=(χ _).2 h.good;unfold yd Er Kc;rw[Ll hI,À]
 by_cases hi:Ux b n.1 n.2=0
 ·have e1:(Lj b n).2=5:=by unfold Lj; rw[if_neg (by simp[hc]),if_pos hi]
  rw[Ú (by simp[ine,e1]),agd hI,À,age,if_neg (by simp[hc])]
  by_cases h2:ű (rD b n)=0
  ·have e:yy b n=(rD b n,0):=by unfold yy; rw[if_neg (by simp[hi]),if_neg (by simp[h2])]
   obtain⟨r1,r2⟩:=Z9 h (n:=n) (by rw[e]);rw[e] at r1 r2;rw[if_neg (by simp[h2]),Î (by rfl),Kb r1 r2,e,if_neg (by simp)]
  ·have e:yy b n=(acB,ű (rD b n)):=by unfold yy; rw[if_neg (by simp[hi]),if_pos h2]
   rw[if_pos h2,Ú (by simp[ine,h2]),e,if_pos h2]
 ·have e1:(Lj b n).2=0:=by unfold Lj; rw[if_neg (by simp[hc]),if_neg hi]
  have e:yy b n=(b,0):=by unfold yy; rw[if_pos hi]
  rw[Î (by simp[ine,e1]),←Ll hI,Kb h ((Qs h.good).1 hi),e,if_neg (by simp)]
def abE {α β:Type} {f:α→Option β}:∀{l:List α} {i:Nat} {x:α} {e:β},l[i]?=some x→(∀w∈l.take i,f w=none)→f x=some e→l.findSome? f=some e
 |[],_,_,_,h,_,_=>by simp at h
 |y::l,0,x,e,h,_,he=>by simp at h; subst h; rw[gj,he]
 |y::l,i+1,x,e,h,hp,he=>by
  rw[gj,hp y (by simp)];exact abE (by simpa using h) (fun w hw=>hp w (by simp[hw])) he
abbrev Fnd:=List (Int×(Int×Int))
def hullP (s t:Int×Int):Int×Int:=(min s.1 t.1,max s.2 t.2)
def afN (m:œ) (label d:Int) (M:Fnd) (w:Way):Fnd :=
 Ny (k:=tI) (v:=Ã) (iy m.2 w label d) (match pV (k:=tI) (v:=Ã) (iy m.2 w label d) M with|some s=>hullP (Kc (trP m w) (iy m.2 w label d,d)).1 s|none=>(Kc (trP m w) (iy m.2 w label d,d)).1) M
def Du (m:œ) (label d:Int) (l:List Way):Fnd:=l.foldl (afN m label d) []
def ac3 (m:œ) (label d:Int) (w:Way):Int:=(Kc (trP m w) (iy m.2 w label d,d)).2
def WD (m:œ) (label d:Int):List (Int×Int×Int)×Int :=
 if Ļ m≠0 then([],Ļ m) else if xi m.1 label d≠0 then([],xi m.1 label d) else if nD m=[] then([],5) else
 match (nD m).findSome? fun w=>Zh (ac3 m label d w) with
 |some e=>([],e)
 |none=>(m.1.2.1.filterMap fun g=>(pV (k:=tI) (v:=Ã) g.1 (Du m label d (nD m))).map fun s=>(g.1,s),0)
def HG (hw:w∈nD m):ĵ m.2 w∧ka m w=true:=by
 obtain⟨h1,h2⟩:=dM.1 hw;exact⟨mo.1 h1,h2⟩
def XG (h:MOk m):(nD m).length≤150:=cR (dW _ _) (pN h)
def afo (h:MOk m) (hw:ĵ m.2 w) (he:ka m w=true):Room (trP m w):=⟨tz h hw,he,h.in_.num⟩
def acS (hs:In m.1) (hn:m.2.length≤1000) (label d:Int):ye m label d=some (WD m label d):=by
 unfold ye EB WD;rw[mn hs hn,À]
 by_cases hc:Ļ m=0
 ·have h:=(ň m).1 hc;have hG:=hs.size.gauges;have hgl:=XG h;rw[Î (by simp[ine,hc]),if_neg (by simp[hc]),Qo hG,À]
  by_cases hk:xi m.1 label d=0
  ·rw[Î (by simp[ine,hk]),if_neg (by simp[hk]),abx h,À]
   by_cases hnil:nD m=[]
   ·rw[Ú (by simp[ieq,Ñ,hnil]),if_pos hnil]
   ·have:(nD m).length≠0:=fun e=>hnil (cP.1 e);rw[Î (by simp[ieq,Ñ,hnil]),if_neg hnil];have key:∀(l:List Way),(∀w∈l,Zh (ac3 m label d w)=none)→l.findSome? (fun w=>Zh (ac3 m label d w))=none:=fun l hl=>List.findSome?_eq_none_iff.2 hl;refine J9 (nD m) (fun i=>Du m label d ((nD m).take i)) _ (fun i=>∀w∈(nD m).take i,Zh (ac3 m label d w)=none) rfl (fun w hw=>by simp at hw) (fun i x hi hx hp kn=>?_) (fun hp kn=>?_)
    ·obtain⟨x1,x2⟩:=HG (cG hx);have hroom:=afo h x1 x2
     try dsimp only
     unfold oa;rw[Ò hi,È hx,show((((m.1.1.1,m.1.1.2),m.1.2.1,m.1.2.2.1,m.1.2.2.2.1,m.1.2.2.2.2.1,m.1.2.2.2.2.2),m.2):œ)=m from rfl,h.who x1,À,mq h x1,À,abj hroom,À]
     by_cases he:ac3 m label d x=0
     ·refine .inr ⟨fun w hw=>?_,?_⟩
      ·rw[take_succ hx] at hw;rcases cE.1 hw with hw|hw
       ·exact hp w hw
       ·rw[cI.1 hw,he]; rfl
      ·unfold ac3 at he
       have hst:Du m label d ((nD m).take (i+1))=afN m label d (Du m label d ((nD m).take i)) x:=by rw[take_succ hx,Du,List.foldl_append]; rfl
       rw[Î (by simp[ine,he]),hst];unfold afN Lq
       cases pV (k:=tI) (v:=Ã) (iy m.2 x label d) (Du m label d ((nD m).take i)) with
       |none=>dsimp only; rw[Ë hi (by omega)]
       |some s =>
        dsimp only;rw[Ë hi (by omega),VW,abr]; rfl
     ·refine .inl ?_
      have hfs:(nD m).findSome? (fun w=>Zh (ac3 m label d w))=some (ac3 m label d x):=by
       exact abE hx hp (by simp[Zh,he])
      rw[hfs];unfold ac3 at he ⊢;rw[Ú (by simp[ine,he])]
    ·rw[fu] at hp
     try dsimp only
     unfold oa;rw[à,key _ hp,List.take_length];dsimp only;refine Ħ m.1.2.1 (fun i=>(m.1.2.1.take i).filterMap fun g=>(pV (k:=tI) (v:=Ã) g.1 (Du m label d (nD m))).map fun s=>(g.1,s)) _ rfl (fun i g hi hg kn'=>?_) (fun kn'=>?_)
     ·try dsimp only
      unfold nZ;have hle:((m.1.2.1.take i).filterMap fun g=>(pV (k:=tI) (v:=Ã) g.1 (Du m label d (nD m))).map fun s=>(g.1,s)).length≤1000:=Nat.le_trans (List.length_filterMap_le _ _) (by rw[List.length_take]; omega);rw[Ò hi,È hg,take_succ hg,List.filterMap_append];unfold Lq
      cases hmg:pV (k:=tI) (v:=Ã) g.1 (Du m label d (nD m)) with
      |none=>simp only[List.filterMap_cons,hmg,Option.map_none,List.filterMap_nil,cW]; rw[Ë hi (by omega)]
      |some s =>
       simp only[List.filterMap_cons,hmg,dC,List.filterMap_nil];rw[ď (Ù (by rw[dz]; omega)),Ë hi (by omega)]
     ·try dsimp only
      unfold nZ;rw[à,List.take_length]
  ·rw[Ú (by simp[ine,hk]),if_pos hk]
 ·rw[Ú (by simp[ine,hc]),if_pos hc]
end
def aa2 {ρ α:Type} [DecidableEq α] {l m:List α} (hl:l.length=m.length) (K:Bool→Option ρ) {f:Int→(Int→Option ρ)→Option ρ}
 (h:∀(i:Nat) (a b:α),i<l.length→l[i]?=some a→m[i]?=some b→∀kn,f i kn=if a=b then kn ((i:Int)+1) else K false) (hn:∀kn,f l.length kn=K true):Ê f 0=K (decide (l=m)):=by
 refine eo (lU l (fun i a=>if m[i]?=some a then none else some false) K (K true) (fun i a hi ha kn=>?_) hn) ?_
 ·have hm:m[i]?=some m[i]:=cw (by omega);rw[h i a _ hi ha hm,hm]
  by_cases he:a=m[i]
  ·simp[he]
  ·have:¬m[i]=a:=fun e=>he e.symm;simp[he,this]
 ·cases h:ł (fun i a=>if m[i]?=some a then none else some false) 0 l with
  |none=>simp[Ry hl h]
  |some b =>
   obtain⟨h1,h2⟩:=Rx h;simp[h1,h2]
def Oo {a b:Way} (hn:a.length≤1000000) (hl:∀l∈a,l.length≤1000000):nf a b=some (decide (a=b)):=by
 unfold nf wL;rw[Ñ,Ñ]
 by_cases he:a.length=b.length
 ·rw[Î (by simp[ine,he])];refine aa2 he some (fun i x y hi hx hy kn=>?_) (fun kn=>?_)
  ·try dsimp only
   unfold kE;rw[Ò hi,È hx,È hy,Lh (hl x (List.mem_of_getElem? hx)),À,Ë hi (by omega),Đ]
   by_cases h:x=y<;>simp[h]
  ·try dsimp only
   unfold kE;rw[à]
 ·rw[Ú (by simp[ine]; omega)];have:a≠b:=fun e=>he (by rw[e]);simp[this]
def ab9 {L:List Lk} {p:Int→Int} (hp:Pot L p) (c:List Int):ŕ L c≠0:=by
 unfold ŕ
 by_cases h2:kI L c=0
 case neg=>rw[if_pos h2]; exact h2
 rw[if_neg (by simp[h2])];have hi:=(VY h2).2
 cases c with
 |nil=>exact(by decide:(8:Int)≠0)
 |cons i t =>
  dsimp only;unfold XW
  split
  ·rename_i h3;have:=WK hp (i::t) (L[i.toNat]?.getD (0,0,0)).1 0 hi h3.1;rw[h3.2.1] at this;have:=h3.2.2;omega
  ·decide
def ab8 {m:œ} {w:Way} (h:MOk m) (hw:ĵ m.2 w) {c:List Int} (hc:ŕ (sT m w) c=0):ka m w=false:=by
 rw[dT];intro he;have hg:=tz h hw;have hn:=hg.sys.n60;obtain⟨p,hp⟩:=(kg hg.sys.links (by omega)).1 he;exact ab9 hp c hc
def aax {m:œ} (h:MOk m) {chains:List (List Int)} (hc:uU m chains=true):∀w∈Ċ m.2,ka m w=false:=by
 intro w hw;obtain⟨i,hi,rfl⟩:=cM.1 hw;have:=cY.1 hc i (fp.2 hi);rw[cw hi] at this
 cases hx:chains[i]? with
 |none=>rw[hx] at this; cases this
 |some c =>
  rw[hx] at this;exact ab8 h (mo.1 hw) (of_decide_eq_true this)
def RG {m:œ} (h:MOk m) (hs:nN m=false):uU m ((Ċ m.2).map fun w=>zX (sT m w) (nT m w))=true:=by
 refine cY.2 fun i hi=>?_;rw[fp] at hi;have hx:(Ċ m.2)[i]?=some (Ċ m.2)[i]:=cw hi;have hw:(Ċ m.2)[i]∈Ċ m.2:=eI hi;rw[dY,hx];have he:=dE.1 hs _ hw;exact decide_eq_true (T8 (tz h (mo.1 hw)).sys (dT.2 he)).2.1
def exM (l:List Cmp):œ:=(((0,2),[(1,0,1000,(-5,5),(1,10),1),(2,0,1000,(-50,50),(1,4),0),(3,0,1100,(-1,1),(0,1),0)],[(1,10)],[(1,(20,29),3)],(7,10,[1],[2],-20,1,100,200)::l,[]),[(12,[2,3])])
def ex8:Cmp:=(8,15,[2],[1],100,1,0,0)
def ex9:Cmp:=(9,15,[3],[],1100,0,0,0)
def abK {l:List Cmp} (hl:l.length≤10) (hp:∀c∈l,c.2.2.1.length≤10∧c.2.2.2.1.length≤10):In (exM l).1:=by
 refine⟨⟨by simp[exM],by simp[exM],by simp[exM],by simp[exM]; omega,by simp[exM],fun c hc=>?_⟩,fun g hg=>?_⟩
 ·rcases cF.1 (show c∈(7,10,[1],[2],-20,1,100,200)::l from hc) with rfl|hc
  ·exact⟨by decide,by decide⟩
  ·have:=hp c hc; omega
 ·simp only[exM,cF,f8,or_false] at hg
  rcases hg with rfl|rfl|rfl<;>exact⟨by decide,by decide⟩
def w0:Ļ (exM [])=0∧Ļ (exM [ex8])=0∧Ļ (exM [ex8,ex9])=0:=by decide +kernel
def w1:Ċ (exM []).2=[[[2,3]],[[3,2]]]:=by decide +kernel
def w2:nD (exM [])=[[[2,3]],[[3,2]]]:=by decide +kernel
def w3:VP (exM [ex8])=([[3,2]],0):=by decide +kernel
def w4:WD (exM [ex8]) 2 15=([(3,1099,1101)],0):=by decide +kernel
def w5:agi (exM [ex8,ex9])=([8,9],0):=by decide +kernel
def w6:acN (exM [ex8,ex9]) [7,8,9]=([8,9],0):=by decide +kernel
def w7:FD (exM [ex8,ex9]) 2=(false,0):=by decide +kernel
def w8:nN (exM [ex8,ex9])=false:=by decide +kernel
def w9:WhoP (exM [ex8,ex9]) [[3,2]] 2 13=(3,0):=by decide +kernel
def Yz:gT=some true:=by
 have i0:In (exM []).1:=abK (by decide) (by simp);have i1:In (exM [ex8]).1:=abK (by decide) (by decide);have i2:In (exM [ex8,ex9]).1:=abK (by decide) (by decide)
 have n:∀l,(exM l).2.length≤1000:=fun l=>by simp[exM]
 have h0:=(ň _).1 w0.1;have h2:=(ň _).1 w0.2.2;have e0:Ţ []=some (exM []):=rfl;have e1:Ţ [((8:Int),(15:Int),[(2:Int)],[(1:Int)],(100:Int),(1:Int),(0:Int),(0:Int))]=some (exM [ex8]):=rfl;have e2:Ţ [((8:Int),(15:Int),[(2:Int)],[(1:Int)],(100:Int),(1:Int),(0:Int),(0:Int)),((9:Int),(15:Int),[(3:Int)],[],(1100:Int),(0:Int),(0:Int),(0:Int))]=some (exM [ex8,ex9]):=rfl
 have hp:Yi (exM [ex8,ex9])=((Ċ (exM [ex8,ex9]).2).map (fun w=>zX (sT (exM [ex8,ex9]) w) (nT (exM [ex8,ex9]) w)),0):=by
  unfold Yi; rw[if_neg (by simp[w0.2.2]),w8]; rfl
 have c1:mb (exM [ex8,ex9]) ((Ċ (exM [ex8,ex9]).2).map fun w=>zX (sT (exM [ex8,ex9]) w) (nT (exM [ex8,ex9]) w))=0:=by
  unfold mb;rw[if_neg (by simp[w0.2.2]),if_neg (by simp),RG h2 w8]; rfl
 have c2:∀c,mb (exM []) c=8:=fun c=>by
  unfold mb;rw[if_neg (by simp[w0.1])]
  split
  ·rfl
  ·rw[if_neg];intro hc;have:=aax h0 hc [[2,3]] (by rw[w1]; simp)
   have h3:[[2,3]]∈nD (exM []):=by rw[w2]; simp
   rw[(HG h3).2] at this;cases this
 unfold gT Ap;rw[e0,À,acM i0 (n _),À,if_neg (by simp[w0.1]),À,ae3 i0 (n _),À,if_neg (by simp[w0.1]),e1,À,acR i1 (n _),À,À,acS i1 (n _),À,e2,À,agh i2 (n _),À,Wy i2 (n _) (by simp),À,Un i2 (n _),À,w1,w2,w3,w4,w5,w6,w7];rw[aev i2 (n _),À,hp,Î (by rfl),Î (by rfl),Î (by rfl),Î (by rfl),Î (by rfl),Î (by rfl),Î (by rfl),Î (by simp[ine,Ñ]),Î (by simp[ine,Ñ]),Î (by rfl)];rw[show ∀f:Way→Option Bool,ğ [[[2,3]],[[3,2]]] (1:Int) f=f [[3,2]] from fun f=>rfl];dsimp only;rw[agc i2 (n _) (by decide),À,w9,Î (by rfl),Î (by rfl),Î (by rfl),DY i2 (n _),À,c1,Î (by rfl),À,DY i0 (n _),À,c2,Î (by rfl)];rw[Oo (by decide) (by decide),À,Ú (by rfl),Ú (by simp[ieq,Ñ])];rw[show ∀f:Int×Int×Int→Option Bool,ğ [((3:Int),(1099:Int),(1101:Int))] (0:Int) f=f (3,1099,1101) from fun f=>rfl];dsimp only;rw[Ú (by rfl),Lh (by decide),À,Ú (by rfl),À];rfl
def aa3 {ρ α:Type} (l:List α) (K:Option ρ) {f:Int→(Int→Option ρ)→Option ρ} (h:∀(i:Nat) (a:α),i<l.length→l[i]?=some a→∀kn,f i kn=kn ((i:Int)+1)) (hn:∀kn,f l.length kn=K):Ê f 0=K:=by
 refine eo (jr l (fun _=>false) (fun _=>K) K (fun i a hi ha kn=>by rw[h i a hi ha kn]; rfl) hn) ?_;rw[dA.2 (by simp)]
def bigP (c:Cmp):Bool:=decide (9<c.2.2.1.length)||decide (9<c.2.2.2.1.length)
def HZ (m:œ):Bool:=decide (m.1.2.1.length≤6)&&(decide (m.1.2.2.1.length≤20)&&(decide (m.1.2.2.2.1.length≤6)&&(decide (m.1.2.2.2.2.1.length≤8)&&(decide (m.1.2.2.2.2.2.length≤6)&&decide (m.2.length≤6)))))
def Rt (m:œ):Bool:=!((m.1.2.2.2.2.1.take 60).any bigP)&&(!((m.2.take 8).any fun x=>decide (9<x.2.length))&&HZ m)
def aag (m:œ):yb m=some (Rt m):=by
 unfold yb El
 have last:(ifb (ile (Ø m.1.2.1) (6:Int)) (ifb (ile (Ø m.1.2.2.1) (20:Int)) (ifb (ile (Ø m.1.2.2.2.1) (6:Int)) (ifb (ile (Ø m.1.2.2.2.2.1) (8:Int)) (ifb (ile (Ø m.1.2.2.2.2.2) (6:Int)) (some (ile (Ø m.2) (6:Int))) (some false)) (some false)) (some false)) (some false)) (some false))=some (HZ m):=by
  have e:∀(n m:Nat),ile (n:Int) (m:Int)=decide (n≤m):=fun n m=>by simp[ile]
  unfold HZ;rw[Ñ,Ñ,Ñ,Ñ,Ñ,Ñ,show(6:Int)=((6:Nat):Int) from rfl,show(20:Int)=((20:Nat):Int) from rfl,show(8:Int)=((8:Nat):Int) from rfl,e,e,e,e,e,e];generalize decide (m.1.2.1.length≤6)=x1;generalize decide (m.1.2.2.1.length≤20)=x2;generalize decide (m.1.2.2.2.1.length≤6)=x3;generalize decide (m.1.2.2.2.2.1.length≤8)=x4;generalize decide (m.1.2.2.2.2.2.length≤6)=x5
  cases x1<;>cases x2<;>cases x3<;>cases x4<;>cases x5<;>rfl
 rw[last];refine eo (ş (m.1.2.2.2.2.1.take 60) bigP (fun _=>some false) (some false) (some (!((m.2.take 8).any fun x=>decide (9<x.2.length))&&HZ m)) (fun _=>rfl) (fun i c hi hc kn=>?_) (fun kn=>?_)) ?_
 ·try dsimp only
  unfold nR;rw[List.length_take] at hi
  have hc':m.1.2.2.2.2.1[i]?=some c:=by rw[dG] at hc; split at hc<;>simp_all
  rw[Ò (show i<m.1.2.2.2.2.1.length by omega),Ú (by simp[ilt]; omega),È hc',È hc',Ó (by omega) (by omega),Đ,Ñ,Ñ];unfold bigP
  by_cases h1:9<c.2.2.1.length
  ·rw[if_pos (by simp[igt]; omega),if_pos (by simp[h1])]
  ·rw[if_neg (by simp[igt]; omega),Đ]
   by_cases h2:9<c.2.2.2.1.length
   ·rw[if_pos (by simp[igt]; omega),if_pos (by simp[h2])]
   ·rw[if_neg (by simp[igt]; omega),if_neg (by simp[h1,h2])]
 ·refine eo ?_ (eo (ş (m.2.take 8) (fun x=>decide (9<x.2.length)) (fun _=>some false) (some false) (some (HZ m)) (f:=fun v kk=>kj m.2 v (fun u=>kk u) (fun z=>some z) (fun _=>some (HZ m))) (fun _=>rfl) (fun i x hi hx kn'=>?_) (fun kn'=>?_)) ?_)
  ·try dsimp only
   unfold nR;rw[List.length_take,Đ]
   split
   ·rename_i h
    have h':60<m.1.2.2.2.2.1.length:=by rw[Ñ] at h; simp[ilt] at h; omega
    rw[Î (by simp[ilt]; omega)]
   ·rfl
  ·try dsimp only
   unfold kj;rw[List.length_take] at hi
   have hx':m.2[i]?=some x:=by rw[dG] at hx; split at hx<;>simp_all
   rw[Ò (show i<m.2.length by omega),Ú (by simp[ilt]; omega),È hx',Ó (by omega) (by omega),Đ,Ñ]
   by_cases h1:9<x.2.length
   ·rw[if_pos (by simp[igt]; omega),if_pos (by simp[h1])]
   ·rw[if_neg (by simp[igt]; omega),if_neg (by simp[h1])]
  ·try dsimp only
   unfold kj;rw[List.length_take,Đ]
   split
   ·rename_i h
    have h':8<m.2.length:=by rw[Ñ] at h; simp[ilt] at h; omega
    rw[Î (by simp[ilt]; omega)]
   ·rfl
  ·cases List.any (List.take 8 m.2) (fun x=>decide (9<x.2.length))<;>rfl
 ·unfold Rt
  cases List.any (List.take 60 m.1.2.2.2.2.1) bigP<;>rfl
structure Small7 (m:œ):Prop where
 inn:In m.1
 n6:m.2.length≤6
 l9:∀x∈m.2,x.2.length≤9
 c8:m.1.2.2.2.2.1.length≤8
def aah {m:œ} (h:Rt m=true) (hn:∀g∈m.1.2.1,I64 g.2.2.2.2.1.1):Small7 m:=by
 simp only[Rt,HZ,cA,dS,decide_eq_true_eq] at h;obtain⟨h0,h1,h2,h3,h4,h5,h6,h7⟩:=h;refine⟨⟨⟨by omega,by omega,by omega,by omega,by omega,fun c hc=>?_⟩,hn⟩,h7,fun x hx=>?_,h5⟩
 ·rw[dV (by omega)] at h0;have:=dE.1 h0 c hc;simp[bigP] at this;omega
 ·rw[dV (by omega)] at h1;have:=dE.1 h1 x hx;simp at this;omega
def Re {m:œ} (h:MOk m) {w:Way} (hw:ĵ m.2 w):∀l∈w,l.length≤100000:=by
 intro l hl;obtain⟨i,hi,rfl⟩:=cM.1 hl;obtain⟨x,hx⟩:∃x,m.2[i]?=some x:=⟨_,cw (by rw[←hw.len]; exact hi)⟩;obtain⟨l',h1,h2⟩:=hw.at hx;rw[cw hi] at h1;cases h1;have:=h.len5 x (cG hx);rw[h2.length_eq]; omega
def idW (ms:List Mx):Way:=ms.map fun x=>x.2
def abu:∀ms:List Mx,ĵ ms (idW ms)
 |[]=>trivial
 |m::ms=>⟨List.Perm.refl _,abu ms⟩
def Ra:∀{l m:List Int},l.length=m.length→(Q5 l m=0↔l=m)
 |[],[],_=>by simp[Q5]
 |[],_::_,h=>by simp at h
 |_::_,[],h=>by simp at h
 |x::l,y::m,h=>by
  have ih:=Ra (l:=l) (m:=m) (by simpa using h);have hb:=D3 l m;rw[Q5,List.cons.injEq,←ih]
  by_cases he:y=x
  ·rw[if_pos he]; constructor
   ·intro e; exact⟨he.symm,by omega⟩
   ·intro e; omega
  ·rw[if_neg he]; constructor
   ·intro e; omega
   ·intro e; exact absurd e.1.symm he
def UA:∀(ms:List Mx) (w:Way),0≤yx ms w
 |[],w=>by simp[yx]
 |m::ms,[]=>by unfold yx; exact Int.le_refl _
 |m::ms,l::ls=>by
  have h1:=D3 l m.2;have h2:=UA ms ls;rw[yx]; omega
def Bo:∀{ms:List Mx} {w:Way},ĵ ms w→(yx ms w=0↔w=idW ms)
 |[],[],_=>by simp[yx,idW]
 |m::ms,l::ls,h=>by
  have h1:=Ra (l:=l) (m:=m.2) h.1.length_eq;have h2:=Bo h.2;have b1:=D3 l m.2;have b2:=UA ms ls;rw[yx,idW,d8,List.cons.injEq,←h1,show(List.map (fun x:Mx=>x.2) ms)=idW ms from rfl,←h2];constructor
  ·intro e; exact⟨by omega,by omega⟩
  ·intro e; omega
def Zd {α β:Type} {f:α→List β} {l:List α} (hl:l.Nodup) (hf:∀a∈l,(f a).Nodup) (hd:∀a b,a≠b→∀x∈f a,∀y∈f b,x≠y):(l.flatMap f).Nodup:=by
 unfold List.Nodup;rw[List.pairwise_flatMap];exact⟨hf,hl.imp fun hne=>hd _ _ hne⟩
def Ns:∀{n:Nat} {l:List Int},l.length=n→l.Nodup→(Ei n l).Nodup
 |0,_,_,_=>by simp[Ei]
 |n+1,l,h,hn=>by
  rw[Ei,if_neg (by omega)]
  have hg:∀i (hi:i<l.length),l.getD i 0=l[i]:=fun i hi=>by rw[dR,cw hi]; rfl
  unfold List.Nodup;rw[List.pairwise_flatMap];refine⟨fun i hi=>List.pairwise_map.2 ((Ns (n:=n) (l:=l.take i++l.drop (i+1)) (by simp at hi ⊢; omega) ?_).imp fun hne e=>hne (List.cons.inj e).2),?_⟩
  ·rw[fp] at hi;exact(eA.1 ((OG hi).nodup_iff.2 hn)).2
  ·refine List.Pairwise.imp_of_mem (R:=(·≠·)) ?_ List.nodup_range;intro i j hi hj hne x hx y hy e;rw[fp] at hi hj;obtain⟨a,_,rfl⟩:=cX.1 hx;obtain⟨b,_,rfl⟩:=cX.1 hy;have:=(List.cons.inj e).1;rw[hg i hi,hg j hj] at this;exact hne ((List.getElem_inj hn).1 this)
def KO:∀{ms:List Mx},(∀x∈ms,x.2.Nodup)→(iw ms).Nodup
 |[],_=>by simp[iw]
 |m::ms,h=>by
  rw[iw];refine Zd (Ns rfl (h m (by simp))) (fun x _=>List.pairwise_map.2 ((KO fun y hy=>h y (df _ hy)).imp fun hne e=>hne (List.cons.inj e).2)) fun a b hne x hx y hy e=>?_;obtain⟨_,_,rfl⟩:=cX.1 hx;obtain⟨_,_,rfl⟩:=cX.1 hy;exact hne (List.cons.inj e).1
def UB {ms:List Mx} (h:∀x∈ms,x.2.Nodup):(Ċ ms).Nodup:=((Ķ (key:=yx ms) (iw ms)).perm).nodup_iff.2 (KO h)
def Yp {ms:List Mx} (h:∀x∈ms,x.2.Nodup):∃t,Ċ ms=idW ms::t∧∀w∈t,ĵ ms w∧yx ms w≠0:=by
 have hs:Srt (yx ms) (Ċ ms):=iK _;have hi:idW ms∈Ċ ms:=mo.2 (abu ms);have hn:=UB h
 cases hw:Ċ ms with
 |nil=>rw[hw] at hi; cases hi
 |cons x t =>
  rw[hw] at hi hs hn;have hx:ĵ ms x:=mo.1 (by rw[hw]; simp);have hz:yx ms (idW ms)=0:=(Bo (abu ms)).2 rfl;have b2:=UA ms x
  have hx0:x=idW ms:=by
   rcases cF.1 hi with e|e
   ·exact e.symm
   ·refine(Bo hx).1 ?_;have:=(di.1 hs).1 _ e;omega
  subst hx0;refine⟨t,rfl,fun w hwt=>?_⟩;have hwo:ĵ ms w:=mo.1 (by rw[hw]; simp[hwt]);refine⟨hwo,fun e=>?_⟩;have:=(Bo hwo).1 e;subst this;exact(eA.1 hn).1 hwt
def stp_id {d:Int} {m:Mx} (hn:m.2.Nodup) (x:Int):stp d m m.2 x=x:=by
 unfold stp
 split
 ·by_cases hx:x∈m.2
  ·obtain⟨k,h1,h2⟩:=Qt hx;rw[h1];dsimp only;rw[List.getD_eq_getElem?_getD,h2]; rfl
  ·rw[HE hx]
 ·rfl
def aeA:∀{ms:List Mx},(∀x∈ms,x.2.Nodup)→∀x d,iy ms (idW ms) x d=x
 |[],_,x,d=>rfl
 |m::ms,h,x,d=>by
  show stp d m m.2 (iy ms (idW ms) x d)=x;rw[aeA fun y hy=>h y (df _ hy),stp_id (h m (by simp))]
def abn {l:List Int} (h:l.Pairwise (·<·)):kH l=l :=
 gu (fun a b _ _ h1 h2=>Int.le_antisymm h1 h2) (iZ l) (h.imp fun h=>Int.le_of_lt h) (ķ l)
def tr_id {m:œ} (h:MOk m):trP m (idW m.2)=m.1:=by
 have hw:=aeA h.nd
 have e1:∀l:List (Int×Int),l.map (fun u=>(iy m.2 (idW m.2) u.1 u.2,u.2))=l:=fun l=>by
  conv=>rhs; rw[←List.map_id l]
  exact dQ fun u _=>by rw[hw]; rfl
 have e2:∀l:List Li,l.map (fun l=>(iy m.2 (idW m.2) l.1 l.2.1.1,l.2))=l:=fun l=>by
  conv=>rhs; rw[←List.map_id l]
  exact dQ fun u _=>by rw[hw]; rfl
 have e3:m.1.2.2.2.2.1.map (Q6 m (idW m.2))=m.1.2.2.2.2.1:=by
  conv=>rhs; rw[←List.map_id m.1.2.2.2.2.1]
  refine dQ fun c hc=>?_;have hp:=(jm c).1 (h.good.nums hc)
  have hpt:∀l,vt l=true→j7 m (idW m.2) c.2.1 l=l:=fun l hl=>by
   unfold j7
   rw[show(l.map fun x=>iy m.2 (idW m.2) x c.2.1)=l by
    conv=>rhs; rw[←List.map_id l]
    exact dQ fun u _=>by rw[hw]; rfl,abn ((By l).1 hl).2.1]
  unfold Q6;rw[hpt _ hp.2.2.2.2.2.1,hpt _ hp.2.2.2.2.2.2]; rfl
 unfold trP;rw[e1,e2,e3,e1]
def MOk.bare {m:œ} {w:Way} (h:MOk m) (hw:ĵ m.2 w):MOk (trP m w,[]):=⟨tz h hw,by simp,fun i x hx=>by simp at hx,by simp[vN]⟩
def YP {m:œ} (h:MOk m) {i:Nat} (hi:i<(Ċ m.2).length) (K:Bool→Option Bool):Ê (fun(v:Bool×Int) kk=>Χ (nD m) (Ċ m.2)[i] v.1 v.2 (fun a b=>kk (a,b)) K) (false,(0:Int))=K (ka m (Ċ m.2)[i]):=by
 have hgl:=XG h;have ho:=nl (cw hi);refine E9 (nD m) (fun j=>(((nD m).take j).any fun w=>decide (w=(Ċ m.2)[i]))) _ (fun _=>True) (by simp) trivial (fun j w hj hw _ kn=>.inr ⟨trivial,?_⟩) (fun _ kn=>?_)
 ·have hwo:=(HG (cG hw)).1;have hl:=Re h hwo
  try dsimp only
  unfold Χ;rw[Ò hj,È hw,Oo (by rw[hwo.len]; have:=h.n4; omega) (fun l hl'=>by have:=hl l hl'; omega),À,Ë hj (by omega),take_succ hw,List.any_append,Đ,Ë hj (by omega)]
  cases((nD m).take j).any fun w=>decide (w=(Ċ m.2)[i])<;>simp
 ·try dsimp only
  unfold Χ;rw[à,List.take_length];congr 1;rw[Bool.eq_iff_iff,List.any_eq_true];constructor
  ·rintro⟨w,hw,e⟩;rw[←of_decide_eq_true e];exact(HG hw).2
  ·intro e;exact⟨_,dM.2 ⟨eI hi,e⟩,by simp⟩
def aaS {m:œ} (hn:∀g∈m.1.2.1,I64 g.2.2.2.2.1.1) {which:Int}:rI m which=some true:=by
 unfold rI rk;rw[aag,À,Yz]
 by_cases hs:Rt m=true
 case neg=>rw[dT.2 hs]; rfl
 have h7:=aah hs hn;have hl6:=h7.n6;rw[hs,Î (by rfl)]
 by_cases hwh:which<0
 case pos=>rw[Ú (by simpa[ilt] using hwh)]; rfl
 rw[Î (by simpa[ilt] using hwh),ae3 h7.inn (by omega),À,acM h7.inn (by omega),À]
 by_cases hc:Ļ m=0
 case neg=>rw[if_pos hc,Ú (by simp[ine,hc]),À,mi]; simp[ine,hc]
 have h:=(ň m).1 hc;have hl2:=pN h;obtain⟨t,ht,_⟩:=Yp h.nd
 have hpos:0<(Ċ m.2).length:=by rw[ht]; simp
 rw[if_neg (by simp[hc]),if_neg (by simp[hc]),Î (by rfl),Î (by rfl)];dsimp only
 have hne:¬((Ċ m.2).length:Int)=0:=by omega
 rw[Ñ,Î (beq_eq_false_iff_ne.2 hne),Î (decide_eq_false hne)];obtain⟨i,hi⟩:=gA (Int.tmod_nonneg ((Ċ m.2).length:Int) (show 0≤which by omega))
 have hil:i<(Ċ m.2).length:=by
  have:=Int.tmod_lt_of_pos which (show(0:Int)<((Ċ m.2).length:Int) by omega);rw[hi] at this;omega
 have hx:(Ċ m.2)[i]?=some (Ċ m.2)[i]:=cw hil;have ho:=nl hx;have hb:=h.bare ho;have hask:rg (trP m (Ċ m.2)[i],[]) []=0:=pB.2 ⟨hb,trivial⟩;have hid:trP (trP m (Ċ m.2)[i],[]) []=trP m (Ċ m.2)[i]:=tr_id hb
 have hex:ka (trP m (Ċ m.2)[i],[]) []=ka m (Ċ m.2)[i]:=by unfold ka; rw[hid]
 rw[hi,È hx,Uo h7.inn (by omega) (Re h ho),À,FE,if_neg (by simp[pB.2 ⟨h,ho⟩]),Î (by rfl)];dsimp only;rw[WB (m:=(trP m (Ċ m.2)[i],[])) (In_tr h ho) (by simp) (by simp),À,Lm,if_neg (by simp[hask]),hex,YP h hil];have hC:=h.good.nC;have hlc:(trP m (Ċ m.2)[i]).2.2.2.2.1=m.1.2.2.2.2.1.map (Q6 m (Ċ m.2)[i]):=rfl;rw[Î (by rfl),Î (by simp),hlc,Ñ,Ñ,List.length_map,Î (by simp[ine])]
 have hpl:∀d l,(j7 m (Ċ m.2)[i] d l).length=l.length:=fun d l=>by unfold j7; rw[(ķ _).length_eq,List.length_map]
 refine aa3 m.1.2.2.2.2.1 _ (fun j c hj hc' kn=>?_) (fun kn=>?_)
 ·have hc2:(m.1.2.2.2.2.1.map (Q6 m (Ċ m.2)[i]))[j]?=some (Q6 m (Ċ m.2)[i] c):=by rw[dY,hc']; rfl
  try dsimp only
  unfold iU;rw[Ò (by simpa using hj),È hc2,È hc',Î (by simp[ine,Q6]),È hc2,È hc',Î (by rw[Ñ,Ñ]; simp[ine,Q6,hpl]),È hc2,È hc',Î (by rw[Ñ,Ñ]; simp[ine,Q6,hpl]),Ë hj (by omega)]
 ·try dsimp only
  unfold iU;rw[Ñ,List.length_map,Î (by simp[ilt])]; rfl
end Go.Proofs.ZzM
end
