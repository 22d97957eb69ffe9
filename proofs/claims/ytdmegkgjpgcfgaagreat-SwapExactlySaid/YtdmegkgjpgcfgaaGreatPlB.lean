/- lemmas -/
import Derived.Test.YtdmegkgjpgcfgaaGreatPlA
import Derived.Test.YtdmegkgjpgcfgaaGreatMdTA
set_option linter.all false
set_option linter.unusedSectionVars false
set_option linter.unusedVariables false
set_option linter.unusedSimpArgs false
noncomputable section
namespace Go.Proofs.ZzM
open Go Go.Am
section
variable {b:Ė}
def agU:off b b.2.1.length=(Ô b).length:=by unfold off Ô; rw[List.take_length]
def aeQ:∀n,n≤b.2.1.length→∀j,j<off b n→∃(i:Nat) (g:ý) (k:Nat),b.2.1[i]?=some g∧k<(æ b g).length∧j=off b i+k:=by
 intro n
 induction n with
 |zero=>intro _ j hj; simp[off] at hj
 |succ n ih =>
  intro hn j hj;have hg:b.2.1[n]?=some b.2.1[n]:=cw (by omega);rw[aeP hg] at hj
  by_cases h:j<off b n
  ·exact ih (by omega) j h
  ·exact⟨n,_,j-off b n,hg,by omega,by omega⟩
def Ov {v:Int} (h0:1≤v) (h1:v<((Ô b).length+1:Nat)):∃(i:Nat) (g:ý) (k:Nat),b.2.1[i]?=some g∧k<(æ b g).length∧v=(off b i:Int)+k+1:=by
 obtain⟨i,g,k,h2,h3,h4⟩:=aeQ (b:=b) b.2.1.length (cz _) (v-1).toNat (by rw[agU]; omega);exact⟨i,g,k,h2,h3,by omega⟩
def GL (b:Ė) (L:List Lk):Prop:=∀(i:Nat) (g:ý),b.2.1[i]?=some g→∀l∈Ŋ b g,l∈L
def IC:GL b (Ř b):=fun i g hg l hl=>oS.2 (.inl ⟨i,g,hg,hl⟩)
def abt {L:List Lk} (h:ż b) (hL:GL b L) {v:Int} (h0:0≤v) (h1:v<((Ô b).length+1:Nat)):∃vs d,Wl L (fun u=>u=0) vs v d∧d≤4503599627370496:=by
 by_cases hv:v=0
 ·exact⟨[],0,.nil hv,by omega⟩
 obtain⟨i,g,k,hg,hk,rfl⟩:=Ov (by omega) h1;have hr:=h.gaugeR (cG hg);have r1:=hr.2.2.2.2.2.1;have r2:=hr.2.2.2.2.2.2.1
 have key:∀k:Nat,k<(æ b g).length→∃vs,Wl L (fun u=>u=0) vs ((off b i:Int)+k+1) (g.2.2.1+g.2.2.2.1.2):=by
  intro k
  induction k with
  |zero =>
   intro _;have hw:Wl L (fun u=>u=0) [0] ((off b i:Int)+1) (0+(g.2.2.1+g.2.2.2.1.2)):=Wl.step (.nil rfl) (hL i g hg _ ((Ĵ h hg).2 (.inl rfl)));rw[Int.zero_add] at hw;exact⟨[0],by simpa using hw⟩
  |succ k ih =>
   intro hk;obtain⟨vs,hw⟩:=ih (by omega);have hw':=Wl.step hw (hL i g hg _ ((Ĵ h hg).2 (.inr (.inr ⟨k,_,_,cw (show k<_ by omega),cw hk,.inl rfl⟩))));rw[gu] at hw'
   have e:(off b i:Int)+((k+1:Nat):Int)+1=(off b i:Int)+k+2:=by push_cast; omega
   exact⟨_,by rw[e]; exact hw'⟩
 obtain⟨vs,hw⟩:=key k hk;exact⟨vs,_,hw,by omega⟩
def SG {L:List Lk} (h:ż b) (hL:GL b L) {v:Int} (h0:0≤v) (h1:v<((Ô b).length+1:Nat)):∃vs d,Wl L (fun u=>u=v) vs 0 d∧d≤4503599627370496:=by
 by_cases hv:v=0
 ·exact⟨[],0,.nil hv.symm,by omega⟩
 obtain⟨i,g,k,hg,hk,rfl⟩:=Ov (by omega) h1;have hgm:=cG hg;have hr:=h.gaugeR hgm;have r1:=hr.2.2.2.2.2.1;have r2:=hr.2.2.2.2.2.2.1;have hd:=RP h hgm
 have key:∀m:Nat,m≤k→∃vs d,Wl L (fun u=>u=(off b i:Int)+k+1) vs ((off b i:Int)+(k-m:Nat)+1) d∧d≤m*(12*(20001*1048576)+40*1048576):=by
  intro m
  induction m with
  |zero=>intro _; exact⟨[],0,.nil (by simp),by simp⟩
  |succ m ih =>
   intro hm;obtain⟨vs,d,hw,hd⟩:=ih (by omega)
   have e1:((k-m:Nat):Int)=((k-(m+1):Nat):Int)+1:=by omega
   have hl:(((off b i:Int)+(k-(m+1):Nat)+2,(off b i:Int)+(k-(m+1):Nat)+1,kM b g ((æ b g)[k-(m+1)]'(by omega)) ((æ b g)[k-(m+1)+1]'(by omega))):Lk)∈L :=
    hL i g hg _ ((Ĵ h hg).2 (.inr (.inr ⟨k-(m+1),_,_,cw (by omega),cw (by omega),.inr rfl⟩)))
   have hb:=vl h hgm (f:=(æ b g)[k-(m+1)]'(by omega)) (t:=(æ b g)[k-(m+1)+1]'(by omega)) (h.day hgm (eT _)).2.1
   have e2:(off b i:Int)+(k-m:Nat)+1=(off b i:Int)+(k-(m+1):Nat)+2:=by omega
   rw[e2] at hw;exact⟨_,_,.step hw hl,by push_cast; omega⟩
 obtain⟨vs,d,hw,hdb⟩:=key k (cz _)
 have e:(off b i:Int)+(k-k:Nat)+1=(off b i:Int)+1:=by omega
 rw[e] at hw;have hw':=Wl.step hw (hL i g hg _ ((Ĵ h hg).2 (.inr (.inl rfl))));exact⟨_,_,hw',by omega⟩
def aeJ (h:ż b) {p:Int→Int} (hp:Pot (Ř b) p) {v:Int} (h0:0≤v) (h1:v<((Ô b).length+1:Nat)) : -4503599627370496≤p v-p 0∧p v-p 0≤4503599627370496:=by
 obtain⟨vs,d,hw,hd⟩:=abt h IC h0 h1;obtain⟨ws,e,hx,he⟩:=SG h IC h0 h1;obtain⟨s,rfl,hs⟩:=hw.pot hp;obtain⟨t,rfl,ht⟩:=hx.pot hp;omega
end
structure N0 (L:List Lk) (N:Nat):Prop where
 to:∀v:Int,0≤v→v<N→∃vs d,Wl L (fun u=>u=0) vs v d∧d≤4503599627370496
 from':∀v:Int,0≤v→v<N→∃vs d,Wl L (fun u=>u=v) vs 0 d∧d≤4503599627370496
def ż.tied {b:Ė} (h:ż b):N0 (Ř b) ((Ô b).length+1):=⟨fun v h0 h1=>abt h IC h0 h1,fun v h0 h1=>SG h IC h0 h1⟩
section
variable {L:List Lk} {N:Nat}
def YL {L:List Lk} {s:Int} {vs:List Int} {v d:Int}:Wl L (fun v=>ab7 s v=true) vs v d↔Wl L (fun u=>u=s) vs v d :=
 ⟨fun h=>h.mono fun u hu=>by simpa[ab7] using hu,fun h=>h.mono fun u hu=>by simpa[ab7] using hu⟩
def jX (s:Int):(ml L N s).length=N:=by unfold ml; rw[ş,Č]
def aaZ (h:g9 L N) (ht:N0 L N) (ho:iq L N=true) {v:Int} (h0:0≤v) (h1:v<N):gv (ml L N 0) v≤4503599627370496:=by
 have h2:=h.n60;have h3:=h.n1;obtain⟨p,hp⟩:=(Η h.links (by omega)).1 ho;obtain⟨vs,d,hw,hd⟩:=ht.to v h0 h1;have:=(mj h.links (by omega) hp (s:=0) ⟨by omega,by omega⟩).low v vs d (YL.2 hw);omega
def XT (h:g9 L N) (ho:iq L N=true) {v:Int} (h0:0≤v) (h1:v<N):gv (ml L N v) v=0:=by
 have h2:=h.n60;obtain⟨p,hp⟩:=(Η h.links (by omega)).1 ho;have hd:=mj h.links (by omega) hp (s:=v) ⟨h0,h1⟩;have h3:=hd.low v [] 0 (.nil (by simp[ab7]));obtain⟨vs,hw⟩:=hd.att v h0 h1 (by unfold Ő; omega);obtain⟨s,hs,hx⟩:=(YL.1 hw).pot hp;subst hs;omega
end
def Gu (b:Ė) (id day:Int):Int:=match ĉ b id with|some g=>if day<g.2.1 then 4 else 0|none=>5
def V5 {b:Ė} (hi:b.2.1.Pairwise fun a b=>a.1<b.1) (id day:Int):Gu b id day=mH (iB b) id day:=by
 unfold Gu mH;rw[yC hi]
 cases ĉ b id<;>rfl
def aaC (e:Int):Option Int:=if e=0 then none else some e
def ahK (b:Ė) (g d:Int):Bool×Int:=if Ma b g [d]≠0 then(false,Ma b g [d]) else((lm b g d).isSome,0)
def ahJ {b:Ė} (h:In b) (g d:Int):y0 b g d=some (ahK b g d):=by
 have hu:=h.size.loans;unfold y0 Rm ahK;rw[ad4 h g (by simp),À]
 by_cases ha:Ma b g [d]=0
 ·rw[Í (by simp[ine,ha]),ad2 (by omega),À,if_neg (by simpa using ha)]
  cases lm b g d<;>rfl
 ·rw[Ø (by simp[ine,ha]),if_pos ha]
section
variable {ρ:Type}
def OW {α σ:Type} (l:List α) (g:Nat→σ) (r:Option ρ) {f:σ×Int→(σ×Int→Option ρ)→Option ρ} {s0:σ} (P:Nat→Prop) (h0:g 0=s0) (hP:P 0)
 (h:∀(i:Nat) (a:α),i<l.length→l[i]?=some a→P i→∀kn,f (g i,i) kn=r∨(P (i+1)∧f (g i,i) kn=kn (g (i+1),(i:Int)+1)))
 (hn:P l.length→∀kn,f (g l.length,l.length) kn=r):Ê f (s0,0)=r:=by
 subst h0;refine tE (F:=fun _=>r) (fun x=>∃i:Nat,i≤l.length∧x=(g i,(i:Int))∧P i) (fun x=>l.length-x.2.toNat) (fun x hx kn hk=>?_) ⟨0,dK _,rfl,hP⟩;obtain⟨i,hi,rfl,hp⟩:=hx;rcases cV i l.length with hlt|hge
 ·rcases h i _ hlt (cw hlt) hp kn with h1|⟨h1,h2⟩
  ·exact h1
  ·rw[h2,hk _ ⟨i+1,hlt,by simp,h1⟩ (by simp; omega)]
 ·have:i=l.length:=by omega
  subst this;exact hn hp kn
def YR {l:List Int} {f:Int→(Int→Option ρ)→Option ρ} {K k1:Option ρ} (h:∀(i:Nat) (a b:Int),l[i]?=some a→l[i+1]?=some b→∀kn,f ((i:Int)+1) kn=if b≤a then K else kn ((i:Int)+1+1))
 (hn:∀n:Nat,l.length≤n→∀kn,f n kn=k1):Ê f 1=if l.Pairwise (·<·) then k1 else K:=by
 have hb:=IM (fun x:Int=>x) l;refine Ę (fun x=>∃i:Nat,x=(i:Int)+1∧∀j a,j≤i→l[j]?=some a→tX (fun x=>x) l j a=false) (fun x=>l.length-x.toNat) ?_ ⟨0,rfl,fun j a hj _=>?_⟩
 ·rintro x ⟨i,rfl,hi⟩;rcases cV (i+1) l.length with hlt|hge
  ·have ha:l[i]?=some l[i]:=cw (by omega);have hc:l[i+1]?=some l[i+1]:=cw hlt
   by_cases hle:l[i+1]≤l[i]
   ·refine .inl fun kn=>?_;rw[h i _ _ ha hc,if_pos hle,if_neg];intro hp;have:=hb.2 hp (i+1) _ hc;simp[tX,ha,hle] at this
   ·refine .inr ⟨(i:Int)+1+1,⟨i+1,by simp,fun j a hj hja=>?_⟩,by omega,fun kn=>by rw[h i _ _ ha hc,if_neg hle]⟩;rcases cV i j with h1|h1
    ·have:j=i+1:=by omega
     subst this;rw[hc] at hja; cases hja;simp[tX,ha]; omega
    ·exact hi j a h1 hja
  ·refine .inl fun kn=>?_;have:=hn (i+1) hge kn;simp only[Int.natCast_add,Int.cast_ofNat_Int] at this;rw[this,if_pos];refine hb.1 fun j a hj=>hi j a ?_ hj;have:=(cB.1 hj).1;omega
 ·have:j=0:=by omega
  subst this; simp[tX]
end
def mixE (b:Ė) (l:List Mx) (i:Nat) (x:Mx):Int :=
 if !(inP x.1 0 19999&&inP x.2.length 2 5) then 1 else
 if ¬x.2.Pairwise (·<·) then 1 else
 if x.2.any (fun g=>(ĉ b g).isNone) then 5 else
 if x.2.any (fun g=>Gu b g x.1 != 0) then 4 else
 if tX (fun y=>y.1) l i x then 6 else
 if x.2.any (fun g=>(lm b g x.1).isSome||(lm b g (x.1+1)).isSome) then 9 else 0
def Xz:Nat→Nat
 |0=>1
 |n+1=>Xz n*(n+1)
def zn:List Mx→Nat
 |[]=>1
 |x::r=>Xz x.2.length*zn r
def Oe:∀{l:List Mx} {i:Nat} {x:Mx},l[i]?=some x→zn (l.take (i+1))=zn (l.take i)*Xz x.2.length
 |[],_,_,h=>by simp at h
 |y::l,0,x,h=>by simp at h; subst h; simp[zn]
 |y::l,i+1,x,h=>by
  simp only[fj] at h;simp only[gi,zn,Oe h,Nat.mul_assoc]
def ac7:∀{n:Nat},n≤5→Xz n≤120
 |0,_|1,_|2,_|3,_|4,_|5,_=>by decide
 |n+6,h=>by omega
def Yu:∀{l:List Mx} {n:Nat},l.length≤n→(∀x∈l,x.2.length≤5)→zn l≤120 ^ n
 |[],n,_,_=>Nat.one_le_pow _ _ (by decide)
 |x::l,0,h,_=>by simp at h
 |x::l,n+1,h,hl=>by
  have h1:=Yu (l:=l) (n:=n) (by simpa using h) fun y hy=>hl y (dk _ hy);have h2:=ac7 (hl x (by simp));rw[zn,Nat.pow_succ,Nat.mul_comm];exact fK h1 h2
def OA (b:Ė) (l:List Mx):Option Int:=ł (fun i x=>aaC (mixE b l i x)) 0 l
def Ĺ (m:ř):Int :=
 if Ŏ m.1≠0 then Ŏ m.1 else if 4<m.2.length then 2 else match OA m.1 m.2 with
 |some e=>e
 |none=>if 150<zn m.2 then 2 else 0
def Jv (l:List ý):List (Int×Int):=l.foldl (fun m g=>Oz (k:=tI) (v:=tI) g.1 g.2.1 m) []
def OB (x y n:Int):∀m:List (Int×Int),qt (k:=tI) (v:=tI) x (Oz (k:=tI) (v:=tI) y n m)=if x=y then some n else qt (k:=tI) (v:=tI) x m
 |[]=>by
  unfold Oz qt i6 qt
  by_cases h:x=y<;>simp[h]
 |e::m=>by
  unfold Oz
  by_cases h:y=e.1
  ·have:i6 tI y e.1=true:=by simp[i6,h]
   rw[this];simp only;unfold qt
   by_cases hx:x=y
   ·subst hx; simp[i6]
   ·have:i6 tI x y=false:=by simp[i6,hx]
    have h2:i6 tI x e.1=false:=by simp[i6,←h,hx]
    rw[this,if_neg hx];simp only[h2]
  ·have:i6 tI y e.1=false:=by simp[i6,h]
   rw[this];simp only;unfold qt
   by_cases hx:x=e.1
   ·subst hx;rw[if_neg (fun e=>h e.symm)];simp[i6]
   ·have h2:i6 tI x e.1=false:=by simp[i6,hx]
    rw[h2];exact OB x y n m
def aad (x:Int) (l:List ý):qt (k:=tI) (v:=tI) x (Jv l)=(l.reverse.find? fun g=>g.1==x).map fun g=>g.2.1:=by
 have key:∀r:List ý,qt (k:=tI) (v:=tI) x (Jv r.reverse)=(r.find? fun g=>g.1==x).map fun g=>g.2.1:=by
  intro r
  induction r with
  |nil=>rfl
  |cons g r ih =>
   rw[List.reverse_cons,Jv,List.foldl_append];simp only[fT,List.foldl_nil];rw[OB,fA]
   by_cases h:x=g.1
   ·subst h; simp
   ·have:(g.1==x)=false:=by simp; exact fun e=>h e.symm
    rw[if_neg h,this];exact ih
 have:=key l.reverse
 rwa [List.reverse_reverse] at this
def aci {b:Ė} (h:b.2.1.Pairwise fun a b=>a.1<b.1) (x:Int):qt (k:=tI) (v:=tI) x (Jv b.2.1)=(ĉ b x).map fun g=>g.2.1:=by
 rw[aad,G7 h]; rfl
def UO {ρ:Type} {b:Ė} (h:b.2.1.Pairwise fun a b=>a.1<b.1) (x:Int) (f:Int→Option ρ) (g:Option ρ):Mn (k:=tI) (v:=tI) x (Jv b.2.1) f g=match ĉ b x with|some y=>f y.2.1|none=>g:=by
 unfold Mn;rw[aci h]
 cases ĉ b x<;>rfl
section
variable {ρ:Type} {b:Ė}
def mix_L0 {l:List Int} (hl:l.length≤1000) (k0:Int→Option ρ) (k1:Unit→Option ρ):Ê (fun(v:Int) kk=>mM l v (fun u=>kk u) k0 k1) 1=if l.Pairwise (·<·) then k1 () else k0 1:=by
 refine YR (fun i a c ha hc kn=>?_) (fun n hn kn=>?_)
 ·have hi:=(List.getElem?_eq_some_iff.1 hc).1;unfold mM
  have e:((i:Int)+1)=((i+1:Nat):Int):=by omega
  rw[e,Ò hi,È hc,Ó (by omega) (by omega),←e,Int.add_sub_cancel,È ha,ć,Ó (by omega) (by omega)];simp
 ·unfold mM;rw[Í (by simp[ilt,Ï]; omega)]
def mix_L1 (hn:b.2.1.length≤1000) (k0:List (Int×Int)→Option ρ):Ê (fun(v:Int×List (Int×Int)) kk=>mL b.2.1 (Ù b.2.1) v.1 v.2 (fun u v=>kk (u,v)) k0) ((0:Int),[])=k0 (Jv b.2.1):=by
 refine ĥ b.2.1 (fun i=>Jv (b.2.1.take i)) _ rfl (fun i g hi hg kn=>?_) (fun kn=>?_)
 ·try dsimp only
  unfold mL;rw[Ò hi,È hg,Ì hi (by omega)];congr 2;rw[take_succ hg,Jv,Jv,List.foldl_append];rfl
 ·try dsimp only
  unfold mL;rw[à,List.take_length]
def mix_L2 (hi:b.2.1.Pairwise fun a b=>a.1<b.1) {l:List Int} (hl:l.length≤1000) (X Y Z:Option ρ):Ê (fun(v:Int) kk=>mK l (Ù l) (Jv b.2.1) v (fun u=>kk u) (fun z=>ifb (ige z (0:Int)) X Y) (fun _=>Z)) 0=if l.any (fun g=>(ĉ b g).isNone) then X else Z:=by
 refine ĵ l _ (fun z=>ifb (ige z (0:Int)) X Y) X Z (fun j=>Ø (by simp[ige]) _ _) (fun i a hia ha kn=>?_) (fun kn=>?_)
 ·unfold mK;rw[Ò hia,È ha,UO hi,Ì hia (by omega)]
  cases ĉ b a<;>rfl
 ·unfold mK;rw[à]
def mix_L3 (hi:b.2.1.Pairwise fun a b=>a.1<b.1) {l:List Int} (hl:l.length≤1000) (hk:∀x∈l,∃g,ĉ b x=some g) (d:Int) (X Y Z:Option ρ):Ê (fun(v:Int) kk=>ka l (Ù l) d (Jv b.2.1) v (fun u=>kk u) (fun z=>ifb (ige z (0:Int)) X Y) (fun _=>Z)) 0=if l.any (fun g=>Gu b g d != 0) then X else Z:=by
 refine ĵ l _ (fun z=>ifb (ige z (0:Int)) X Y) X Z (fun j=>Ø (by simp[ige]) _ _) (fun i a hia ha kn=>?_) (fun kn=>?_)
 ·unfold ka;rw[Ò hia,È ha,UO hi,Ì hia (by omega)];obtain⟨g,hg⟩:=hk a (List.mem_of_getElem? ha);unfold Gu;rw[hg];dsimp only;rw[ć]
  by_cases h:d<g.2.1<;>simp[ilt,h]
 ·unfold ka;rw[à]
def mix_L4 (h:ż b) {l:List Int} (hl:l.length≤1000) (hk:∀x∈l,∃g,ĉ b x=some g) {d:Int} (hd:0≤d∧d<20000) (X Y Z:Option ρ):Ê (fun(v:Int) kk=>ľ l (Ù l) b.1.1 b.1.2 b.2.1 b.2.2.1 b.2.2.2.1 b.2.2.2.2.1 b.2.2.2.2.2 d v (fun u=>kk u) (fun z=>ifb (ige z (0:Int)) X Y) (fun _=>Z)) 0=if l.any (fun g=>(lm b g d).isSome||(lm b g (d+1)).isSome) then X else Z:=by
 refine ĵ l _ (fun z=>ifb (ige z (0:Int)) X Y) X Z (fun j=>Ø (by simp[ige]) _ _) (fun i a hia ha kn=>?_) (fun kn=>?_)
 ·unfold ľ;obtain⟨g,hg⟩:=hk a (List.mem_of_getElem? ha)
  have hw:∀e,0≤e→e≤20000→y0 ((b.1.1,b.1.2),b.2.1,b.2.2.1,b.2.2.2.1,b.2.2.2.2.1,b.2.2.2.2.2) a e=some ((lm b a e).isSome,0):=fun e h0 h1=>by
   rw[show(((b.1.1,b.1.2),b.2.1,b.2.2.1,b.2.2.2.1,b.2.2.2.2.1,b.2.2.2.2.2):Ė)=b from rfl,ahJ ⟨h.size,fun g hg=>by have:=(h.gaugeR hg).2.1; unfold I64; omega⟩]
   have:Ma b a [e]=0:=by
    unfold Ma;rw[if_neg (by simp[(ŋ b).2 h]),if_neg (by simp[Ph,inP,h0,h1]),yC h.ids,hg]; rfl
   unfold ahK;rw[if_neg (by simp[this])]
  rw[Ò hia,È ha,hw d hd.1 (by omega),À,Ó (by omega) (by omega),hw (d+1) (by omega) (by omega),À,Ì hia (by omega)];dsimp only
  cases(lm b a d).isSome<;>cases(lm b a (d+1)).isSome<;>rfl
 ·unfold ľ;rw[à]
end
def ae6 {b:Ė} (h:ż b) {l:List Mx} {i:Nat} {x:Mx} (hx:l[i]?=some x) (hn:i≤1000):Eg b l i=some (mixE b l i x):=by
 unfold Eg JV mixE;rw[È hx]
 by_cases h1:inP x.1 0 19999=true∧inP (x.2.length:Int) 2 5=true
 ·obtain⟨h1,h2⟩:=h1;rw[if_neg (by simp[h1,h2])];simp only[inP,cA,decide_eq_true_eq] at h1 h2
  have hl:x.2.length≤1000:=by omega
  rw[Í (by simp[ilt]; omega),Í (by simp[ige]; omega),Í (by simp[ilt,Ï]; omega),Í (by simp[igt,Ï]; omega),mix_L0 hl]
  by_cases h3:x.2.Pairwise (·<·)
  ·rw[if_pos h3,if_neg (by simpa using h3)]
   try dsimp only
   rw[mix_L1 (by have:=h.nG; omega),mix_L2 h.ids hl]
   by_cases h4:(x.2.any fun g=>(ĉ b g).isNone)=true
   ·rw[if_pos h4,if_pos h4]
   ·have hk:∀y∈x.2,∃g,ĉ b y=some g:=fun y hy=>by
     simp only[dc,not_exists,not_and,Option.isNone_iff_eq_none] at h4;exact Option.ne_none_iff_exists'.1 (h4 y hy)
    rw[if_neg h4,if_neg h4,mix_L3 h.ids hl hk]
    by_cases h5:(x.2.any fun g=>Gu b g x.1 != 0)=true
    ·rw[if_pos h5,if_pos h5]
    ·rw[if_neg h5,if_neg h5,mix_L4 h hl hk (by omega)]
     cases i with
     |zero =>
      rw[Í (by simp[igt]),if_neg (show ¬tX (fun y:Mx=>y.1) l 0 x=true by simp[tX])]
      split<;>rfl
     |succ i =>
      obtain⟨hi,_⟩:=cB.1 hx;have hy:l[i]?=some l[i]:=cw (by omega)
      have e:((i+1:Nat):Int)-1=i:=by omega
      rw[Ø (by simp[igt]),Ó (by omega) (by omega),e,È hy,ć];unfold tX;simp only[Nat.add_sub_cancel,hy,Option.any_some,Nat.succ_pos,decide_true,Bool.true_and,ile,decide_eq_true_eq]
      split
      ·rfl
      ·split<;>rfl
  ·rw[if_neg h3,if_pos h3]
 ·rw[if_pos (by simp only[dR]; cases h2:inP x.1 0 19999<;>cases h3:inP (x.2.length:Int) 2 5<;>simp_all)]
  simp only[inP,cA,decide_eq_true_eq,not_and,Int.not_le] at h1;simp only[ć,ilt,ige,igt,Ï,decide_eq_true_eq]
  split
  ·rfl
  split
  ·rfl
  split
  ·rfl
  rw[if_pos (by have:=h1 (by omega); omega)]
def YO {b:Ė} {l:List Mx} {i:Nat} {x:Mx} (h:mixE b l i x=0):x.2.length≤5:=by
 unfold mixE at h
 split at h
 ·cases h
 ·rename_i h1;simp[inP] at h1;omega
def afj {n v:Nat} (hn:n≤5) (hv:v≤1000000000) {ρ:Type} (k0:Int→Option ρ):Ê (fun(u:Int×Int) kk=>mN (aaa n) u.1 u.2 (fun a b=>kk (a,b)) k0) ((v:Int),(0:Int))=k0 ((v*Xz n:Nat):Int):=by
 refine OW (List.range n) (fun i=>((v*Xz i:Nat):Int)) _ (fun _=>True) (by simp[Xz]) trivial (fun i a hi ha _ kn=>.inr ⟨trivial,?_⟩) (fun _ kn=>?_)
 ·rw[fF] at hi
  try dsimp only
  unfold mN;have hf:=ac7 (n:=i) (by omega);have hb:v*Xz i≤1000000000*120:=Nat.mul_le_mul hv hf;have h2:v*Xz i*(i+1)≤1000000000*120*6:=Nat.mul_le_mul hb (by omega)
  have e:((v*Xz i:Nat):Int)*((i:Int)+1)=((v*Xz i*(i+1):Nat):Int):=by simp
  rw[af9 hi,Ó (by omega) (by omega),e,Ó (by omega) (by omega),Ó (by omega) (by omega),Xz,Nat.mul_assoc]
 ·rw[fF]
  try dsimp only
  unfold mN;rw[à]
def ach {b:Ė} {l:List Mx} {i:Nat} {x:Mx} (hx:l[i]?=some x) (hp:∀j y,j<i→l[j]?=some y→mixE b l j y=0) (he:mixE b l i x≠0):OA b l=some (mixE b l i x):=by
 have key:∀(m:List Mx) (k:Nat),l.drop k=m→k≤i→ł (fun i x=>aaC (mixE b l i x)) k m=some (mixE b l i x):=by
  intro m
  induction m with
  |nil =>
   intro k hk hki;have:=List.drop_eq_nil_iff.1 hk;have:=(cB.1 hx).1;omega
  |cons y m ih =>
   intro k hk hki
   have hy:l[k]?=some y:=by
    have:(l.drop k)[0]?=some y:=by rw[hk]; rfl
    simpa using this
   rw[ł];rcases cV k i with hlt|hge
   ·rw[hp k y hlt hy];simp only[aaC,if_true];refine ih (k+1) ?_ hlt;rw[←List.tail_drop,hk]; rfl
   ·have:k=i:=by omega
    subst this;rw[hx] at hy; cases hy;simp[aaC,he]
 exact key l 0 rfl (dK _)
def Jp {b:Ė} {l:List Mx} (hp:∀j y,l[j]?=some y→mixE b l j y=0):OA b l=none:=by
 rw[OA,iO];intro j y hy;rw[dh,hp j y hy]; rfl
def mC {m:ř} (hs:In m.1) (hn:m.2.length≤1000):ψ m=some (Ĺ m):=by
 unfold ψ Kc Ĺ;rw[vF hs.size hs.num,À]
 by_cases hc:Ŏ m.1=0
 ·have hg:=(ŋ _).1 hc;rw[Í (by simp[ine,hc]),if_neg (by simp[hc])]
  by_cases h4:4<m.2.length
  ·rw[Ø (by simp[igt,Ï]; omega),if_pos h4]
  ·rw[Í (by simp[igt,Ï]; omega),if_neg h4];refine OW m.2 (fun i=>((zn (m.2.take i):Nat):Int)) _ (fun i=>∀j y,j<i→m.2[j]?=some y→mixE m.1 m.2 j y=0) (by simp[zn]) (fun j y h _=>by omega) (fun i x hi hx hp kn=>?_) (fun hp kn=>?_)
   ·try dsimp only
    unfold qQ;rw[Ò hi,È hx,show(((m.1.1.1,m.1.1.2),m.1.2.1,m.1.2.2.1,m.1.2.2.2.1,m.1.2.2.2.2.1,m.1.2.2.2.2.2):Ė)=m.1 from rfl,ae6 hg hx (by omega),À]
    by_cases he:mixE m.1 m.2 i x=0
    ·rw[Í (by simp[ine,he])]
     have h5:∀y∈m.2.take i,y.2.length≤5:=fun y hy=>by
      obtain⟨j,hj,rfl⟩:=cM.1 hy;rw[cT] at hj;rw[eM];exact YO (hp j _ (by omega) (cw (by omega)))
     have hb:=Yu (l:=m.2.take i) (n:=4) (by rw[cT]; omega) h5
     have hb2:(120:Nat) ^ 4=207360000:=by decide
     refine .inr ⟨fun j y hj hy=>?_,?_⟩
     ·rcases cV j i with h|h
      ·exact hp j y h hy
      ·have:j=i:=by omega
       subst this;rw[hx] at hy; cases hy;exact he
     ·rw[afj (YO he) (by omega),Ì hi (by omega),Oe hx]
    ·refine .inl ?_;rw[Ø (by simp[ine,he]),ach hx hp he]
   ·try dsimp only
    unfold qQ;rw[à,Jp fun j y hy=>hp j y (List.getElem?_eq_some_iff.1 hy).1 hy,List.take_length];dsimp only;rw[ć];simp only[igt,decide_eq_true_eq]
    by_cases h:150<zn m.2
    ·rw[if_pos (by omega),if_pos h]
    ·rw[if_neg (by omega),if_neg h]
 ·rw[Ø (by simp[ine,hc]),if_pos hc]
def SU {α:Type} [DecidableEq α] {l m:List α} (hl:l.length=m.length) (h:ł (fun i a=>if m[i]?=some a then none else some false) 0 l=none):l=m:=by
 have:=iO.1 h;refine List.ext_getElem hl fun i h1 h2=>?_;have h3:=this i l[i] (cw h1);rw[dh] at h3
 split at h3
 ·rename_i h4;rw[cw h2] at h4;exact(Option.some.inj h4).symm
 ·cases h3
def SS {α:Type} [DecidableEq α] {l m:List α} {b:Bool} (h:ł (fun i a=>if m[i]?=some a then none else some false) 0 l=some b):b=false∧l≠m:=by
 constructor
 ·have:∀(k:Nat) (x:List α) (b:Bool),ł (fun i a=>if m[i]?=some a then none else some false) k x=some b→b=false:=by
   intro k x
   induction x generalizing k with
   |nil=>intro b h; cases h
   |cons a t ih =>
    intro b h;unfold ł at h
    split at h
    ·rename_i c hc
     split at hc
     ·cases hc
     ·cases hc; cases h; rfl
    ·exact ih _ _ h
  exact this _ _ _ h
 ·intro e;subst e;rw[iO.2 fun j a ha=>by rw[dh,if_pos ha]] at h;cases h
def Mg {l m:List Int} (hn:l.length≤1000000):i9 l m=some (decide (l=m)):=by
 unfold i9 uH;rw[Ï,Ï]
 by_cases hl:l.length=m.length
 ·rw[Í (by simp[ine,hl])];refine dS (mc l (fun i a=>if m[i]?=some a then none else some false) some (some true) (fun i a hi ha kn=>?_) (fun kn=>?_)) ?_
  ·try dsimp only
   unfold jM;have hm:m[i]?=some m[i]:=List.getElem?_eq_getElem (by omega);rw[Ò hi,È ha,È hm,Ì hi (by omega),hm,ć]
   by_cases h:a=m[i]
   ·simp[ine,h]
   ·have h':¬m[i]=a:=fun e=>h e.symm;simp[ine,h,h']
  ·try dsimp only
   unfold jM;rw[à]
  ·cases h:ł (fun i a=>if m[i]?=some a then none else some false) 0 l with
   |none=>simp[SU hl h]
   |some b =>
    obtain⟨h1,h2⟩:=SS h;simp[h1,h2]
 ·rw[Ø (by simp[ine]; omega)];have:l≠m:=fun e=>hl (by rw[e]);simp[this]
structure MixOk (b:Ė) (x:Mx):Prop where
 day:0≤x.1∧x.1<20000
 len:2≤x.2.length∧x.2.length≤5
 asc:x.2.Pairwise (·<·)
 known:∀l∈x.2,∃g,ĉ b l=some g∧g.2.1≤x.1
 home:∀l∈x.2,lm b l x.1=none∧lm b l (x.1+1)=none
def Tx {b:Ė} {l:List Mx} {i:Nat} {x:Mx} (h:mixE b l i x=0):MixOk b x∧tX (fun y=>y.1) l i x=false:=by
 unfold mixE at h
 split at h
 ·cases h
 rename_i h1
 split at h
 ·cases h
 rename_i h2
 split at h
 ·cases h
 rename_i h3
 split at h
 ·cases h
 rename_i h4
 split at h
 ·cases h
 rename_i h5
 split at h
 ·cases h
 rename_i h6;simp only[inP,Bool.not_eq_true',Bool.and_eq_false_iff,not_or,Bool.not_eq_false,decide_eq_false_iff_not,Int.not_le,Bool.and_eq_true,decide_eq_true_eq] at h1;simp only[List.any_eq_true,not_exists,not_and,Option.isNone_iff_eq_none] at h3;simp only[List.any_eq_true,not_exists,not_and,bne_iff_ne,ne_eq,Decidable.not_not] at h4;simp only[List.any_eq_true,not_exists,not_and,Bool.or_eq_true,not_or,Option.isSome_iff_ne_none,ne_eq,Decidable.not_not] at h6;refine⟨⟨by omega,by omega,Decidable.not_not.1 h2,fun y hy=>?_,h6⟩,by simpa using h5⟩;obtain⟨g,hg⟩:=Option.ne_none_iff_exists'.1 (h3 y hy);refine⟨g,hg,?_⟩;have:=h4 y hy;unfold Gu at this;rw[hg] at this;dsimp only at this
 split at this
 ·cases this
 ·omega
structure MOk (m:ř):Prop where
 good:ż m.1
 n4:m.2.length≤4
 mixE:∀i x,m.2[i]?=some x→mixE m.1 m.2 i x=0
 prod:zn m.2≤150
def Ō (m:ř):Ĺ m=0↔MOk m:=by
 unfold Ĺ;constructor
 ·intro h
  split at h
  ·rename_i h1; exact absurd h h1
  rename_i h1
  split at h
  ·cases h
  rename_i h2
  cases hm:OA m.1 m.2 with
  |some e =>
   rw[hm] at h;dsimp only at h;rw[OA] at hm
   have key:∀(l:List Mx) (k:Nat) (e:Int),ł (fun i x=>aaC (mixE m.1 m.2 i x)) k l=some e→e≠0:=by
    intro l
    induction l with
    |nil=>intro k e h; cases h
    |cons y l ih =>
     intro k e h;rw[ł] at h
     by_cases hz:mixE m.1 m.2 k y=0
     ·rw[hz] at h;exact ih (k+1) e h
     ·simp only[aaC,if_neg hz,Option.some.injEq] at h;rw[←h]; exact hz
   exact absurd h (key _ _ _ hm)
  |none =>
   rw[hm] at h;dsimp only at h
   split at h
   ·cases h
   rename_i h3;refine⟨(ŋ _).1 (Decidable.not_not.1 h1),by omega,fun i x hx=>?_,by omega⟩;have:=(iO.1 hm) i x hx;rw[Nat.zero_add] at this;unfold aaC at this
   split at this
   ·assumption
   ·cases this
 ·intro h;rw[if_neg (by simp[(ŋ _).2 h.good]),if_neg (by have:=h.n4; omega),Jp h.mixE];dsimp only;rw[if_neg (by have:=h.prod; omega)]
section
variable {m:ř}
def MOk.mix (h:MOk m) {x:Mx} (hx:x∈m.2):MixOk m.1 x:=by
 obtain⟨i,hi,rfl⟩:=cM.1 hx;exact(Tx (h.mixE i _ (cw hi))).1
def MOk.days (h:MOk m):m.2.Pairwise fun a b=>a.1<b.1:=(IM (fun y:Mx=>y.1) m.2).1 fun i x hx=>(Tx (h.mixE i x hx)).2
def MOk.len5 (h:MOk m):∀x∈m.2,x.2.length≤5:=fun x hx=>(h.mix hx).len.2
def MOk.in_ (h:MOk m):In m.1:=⟨h.good.size,fun g hg=>by have:=(h.good.gaugeR hg).2.1; unfold I64; omega⟩
end
def Yx {l:List Int} {i:Nat} (hi:i<l.length):(l[i]::(l.take i++l.drop (i+1))).Perm l:=by
 have h:l=l.take i++l[i]::l.drop (i+1):=by rw[←dt hi,dH]
 exact List.Perm.trans (List.perm_middle.symm) (by rw[←h])
def Ip:∀{n:Nat} {l x:List Int},l.length=n→(x∈Iq n l↔x.Perm l)
 |0,l,x,h=>by
  have:l=[]:=cN.1 h;subst this;simp[Iq]
 |n+1,l,x,h=>by
  rw[Iq,if_neg (by omega)];simp only[dg,fX,di];constructor
  ·rintro⟨i,hi,y,hy,rfl⟩;have hy:=(Ip (n:=n) (by simp; omega)).1 hy;rw[dX,cw hi];exact(hy.cons _).trans (Yx hi)
  ·intro hp
   cases x with
   |nil=>have:=hp.length_eq; simp at this; omega
   |cons a x =>
    have ha:a∈l:=hp.subset (by simp);obtain⟨i,hi,rfl⟩:=cM.1 ha;refine⟨i,hi,x,(Ip (n:=n) (by simp; omega)).2 ?_,by rw[dX,cw hi]; rfl⟩;exact List.Perm.cons_inv (hp.trans (Yx hi).symm)
def RF {α β:Type} (f:α→List β) (n:Nat):∀l:List α,(∀a∈l,(f a).length=n)→(l.flatMap f).length=l.length*n
 |[],_=>by simp
 |a::l,h=>by
  rw[du,cD,h a (by simp),RF f n l fun b hb=>h b (dk _ hb),cO,Nat.succ_mul]; omega
def YK:∀{n:Nat} {l:List Int},l.length=n→(Iq n l).length=Xz n
 |0,_,_=>rfl
 |n+1,l,h=>by
  rw[Iq,if_neg (by omega),RF _ (Xz n) _ fun i hi=>by rw[dv]; exact YK (by simp at hi ⊢; omega),fF,Xz,h,Nat.mul_comm]
def Ep:∀{ms:List Mx} {w:Way},w∈jA ms↔ő ms w
 |[],[]=>by simp[jA,ő]
 |[],_::_=>by simp[jA,ő]
 |m::ms,[]=>by simp[jA,ő]
 |m::ms,l::ls=>by
  simp only[jA,dg,di,ő];constructor
  ·rintro⟨x,hx,y,hy,e⟩;cases e;exact⟨(Ip rfl).1 hx,Ep.1 hy⟩
  ·intro⟨h1,h2⟩;exact⟨l,(Ip rfl).2 h1,ls,Ep.2 h2,rfl⟩
def LR:∀ms:List Mx,(jA ms).length=zn ms
 |[]=>rfl
 |m::ms=>by rw[jA,RF _ (zn ms) _ fun x _=>by rw[dv,LR],YK rfl,zn]
def ļ (ms:List Mx):List Way:=Į (Mm ms) (jA ms)
def aat {α:Type} {k k':α→Int} {x:α} {l:List α} (hx:k x=k' x) (h:∀y∈l,k y=k' y):aau k x l=aau k' x l:=by
 induction l with
 |nil=>rfl
 |cons y l ih =>
  unfold aau;rw[hx,h y (by simp),ih fun z hz=>h z (List.mem_cons_of_mem _ hz)]
def Lh {α:Type} {k k':α→Int}:∀{l:List α},(∀y∈l,k y=k' y)→Į k l=Į k' l
 |[],_=>rfl
 |x::l,h=>by
  have hl:=Lh fun y hy=>h y (dk x hy);show aau k x (Į k l)=aau k' x (Į k' l);rw[hl];exact aat (h x (by simp)) fun y hy=>h y (dk _ ((Ņ (key:=k') l).mem.1 hy))
def wn {ms:List Mx} {w:Way}:w∈ļ ms↔ő ms w:=by
 rw[ļ,(Ņ (jA ms)).mem,Ep]
def abj (ms:List Mx):(ļ ms).length=zn ms:=by rw[ļ,(Ņ (jA ms)).length,LR]
section
variable {m:ř} {ρ:Type}
def MOk.wgt (h:MOk m) {w:Way} (hw:ő m.2 w):ĩ m w=some (Mm m.2 w) :=
 abi hw (by have:=h.n4; omega) fun x hx=>by have:=h.len5 x hx; omega
def IE {α:Type} {f:List α→α→(List α→Option ρ)→Option ρ} (h:∀v y kn,v.length≤1000000→f v y kn=kn (v++[y])):∀{xs:List α} {v:List α} {K:List α→Option ρ},v.length+xs.length≤1000000→ya f xs v K=K (v++xs)
 |[],v,K,_=>by simp[ya]
 |x::xs,v,K,hl=>by
  simp only[cO] at hl;rw[ya,h v x _ (by omega),IE h (by simp; omega)]; simp
def adt (h:MOk m):me m.2=some (jA m.2):=by
 unfold me;rw[ċ];simp only[Bool.and_eq_true,decide_eq_true_eq,List.all_eq_true];exact⟨by have:=h.n4; omega,fun x hx=>by have:=h.len5 x hx; omega⟩
def RS (h:MOk m):(jA m.2).length≤150:=by rw[LR]; exact h.prod
def SL (h:MOk m):Ī (jA m.2) (Ù (jA m.2)) m=some (ļ m.2,m):=by
 have h2:∀w∈jA m.2,ĩ m w=some (Mm m.2 w):=fun w hw=>h.wgt (Ep.1 hw)
 have h3:∀w∈jA m.2,Đ m w=Mm m.2 w:=fun w hw=>by unfold Đ; rw[h2 w hw]; rfl
 rw[Ï,abz (fun w hw=>by rw[h2 w hw,h3 w hw]) (by have:=RS h; omega),Lh h3]; rfl
def IR (h:MOk m):rA m=some (ļ m.2):=by
 unfold rA P6;have hl:=RS h;rw[adt h,À,IE (fun v y kn hv=>by unfold Bf; rw[ċ (Ú (by simp; omega))]) (by simp; omega),List.nil_append,SL h];rfl
def ad8 (hs:In m.1) (hn:m.2.length≤1000):vr m=some (if Ĺ m≠0 then([],Ĺ m) else(ļ m.2,0)):=by
 unfold vr Qi;rw[mC hs hn,À]
 by_cases hc:Ĺ m=0
 ·rw[Í (by simp[ine,hc]),if_neg (by simp[hc]),IR ((Ō m).1 hc)]; rfl
 ·rw[Ø (by simp[ine,hc]),if_pos hc]
end
def YS {ρ:Type} (n:Nat) (p:Nat→Bool) (K0 K1:Option ρ) {f:Int→(Int→Option ρ)→Option ρ} (h:∀i:Nat,i<n→∀kn,f i kn=if p i then kn ((i:Int)+1) else K0) (hn:∀kn,f n kn=K1):Ê f 0=if (List.range n).all p then K1 else K0:=by
 have:=ĵ (List.range n) (fun i=>!p i) (fun _=>K0) K0 K1 (f:=f) (fun _=>rfl) (fun i a hi ha kn=>by
  obtain⟨_,rfl⟩:=cB.1 ha;rw[fF] at hi;rw[h i hi kn,List.getElem_range]
  cases p i<;>rfl) (fun kn=>by rw[fF]; exact hn kn)
 rw[this]
 have e:(List.range n).any (fun i=>!p i)=!(List.range n).all p:=by rw[gy]; simp
 rw[e]
 cases(List.range n).all p<;>rfl
def rt:List Mx→Way→Bool
 |[],[]=>true
 |m::ms,l::ls=>decide (lF l=m.2)&&rt ms ls
 |_,_=>false
def O1:∀{ms:List Mx} {w:Way},(∀x∈ms,x.2.Pairwise (·<·))→(rt ms w=true↔ő ms w)
 |[],[],_=>by simp[rt,ő]
 |[],_::_,_=>by simp[rt,ő]
 |_::_,[],_=>by simp[rt,ő]
 |m::ms,l::ls,h=>by
  rw[rt,ő,cA,decide_eq_true_eq,O1 fun x hx=>h x (dk _ hx)];have hm:=h m (by simp);refine and_congr ⟨fun e=>by rw[←e]; exact(Ŝ l).symm,fun e=>?_⟩ Iff.rfl;exact List.Perm.eq_of_pairwise (fun a b _ _ h1 h2=>Int.le_antisymm h1 h2) (kO l) (hm.imp fun h=>Int.le_of_lt h) ((Ŝ l).trans e)
def acL {ms:List Mx} {w:Way} (hl:w.length=ms.length):rt ms w=(List.range ms.length).all fun i=>match ms[i]?,w[i]? with|some m,some l=>decide (lF l=m.2)|_,_=>false:=by
 induction ms generalizing w with
 |nil =>
  have:w=[]:=cN.1 hl;subst this; rfl
 |cons m ms ih =>
  cases w with
  |nil=>simp at hl
  |cons l w =>
   rw[rt,ih (by simpa using hl),cO,List.range_succ_eq_map,fg,List.all_map];rfl
def row_eq {l m:List Int} (hl:l.length=m.length) (hm:m.length≤5):(l.getD 0 0=m.getD 0 0∧l.getD 1 0=m.getD 1 0∧l.getD 2 0=m.getD 2 0∧l.getD 3 0=m.getD 3 0∧l.getD 4 0=m.getD 4 0)↔l=m:=by
 constructor
 ·intro⟨h0,h1,h2,h3,h4⟩;refine List.ext_getElem hl fun i hi hi'=>?_
  have e:∀k:Nat,l.getD k 0=m.getD k 0→k=i→l[i]=m[i]:=fun k hk e=>by
   subst e;simpa[dX,cw hi,cw hi'] using hk
  have:i=0∨i=1∨i=2∨i=3∨i=4:=by omega
  rcases this with h|h|h|h|h
  ·exact e 0 h0 h.symm
  ·exact e 1 h1 h.symm
  ·exact e 2 h2 h.symm
  ·exact e 3 h3 h.symm
  ·exact e 4 h4 h.symm
 ·rintro rfl; simp
def ae5 {m:ř} (h:MOk m) {w:Way} (hw:∀l∈w,l.length≤100000):Ef m w=some (rt m.2 w):=by
 unfold Ef JP;have hn:=h.n4
 by_cases hl:w.length=m.2.length
 ·rw[Í (by simp[ine,Ï]; omega),acL hl];have hp:∀i,i<m.2.length→∃x l,m.2[i]?=some x∧w[i]?=some l:=fun i hi=>⟨_,_,cw hi,cw (by omega)⟩;refine dS (YS m.2.length (fun i=>match m.2[i]?,w[i]? with|some m,some l=>decide (lF l=m.2)|_,_=>false) (some false) (some true) (fun i hi kn=>?_) (fun kn=>?_)) ?_
  ·obtain⟨x,l,hx,hwl⟩:=hp i hi
   try dsimp only
   unfold qH;have hx5:=h.len5 x (List.mem_of_getElem? hx);have hl1:=hw l (List.mem_of_getElem? hwl);rw[Ò (by omega),È hwl,È hx,hx,hwl];dsimp only
   by_cases hll:l.length=x.2.length
   ·rw[Í (by simp[ine,Ï]; omega)];unfold yO;rw[ċ (Ú (by omega)),À,IE (fun v y kn hv=>by unfold xa; rw[ċ (Ú (by simp; omega))]) (by simp; omega),List.nil_append,ċ (Ú (by omega))];unfold Ee;rw[À,À,PA];have hr:=row_eq (l:=lF l) (m:=x.2) (by rw[(Ŝ l).length_eq]; exact hll) hx5
    by_cases he:lF l=x.2
    ·obtain⟨e0,e1,e2,e3,e4⟩:=hr.2 he;rw[e0,e1,e2,e3,e4,Í (by simp[BX]),Ó (by omega) (by omega),if_pos (by simpa using he)]
    ·rw[Ø,if_neg (by simpa using he)]
     cases hb:(!((BX ((lF l).getD 0 0) (x.2.getD 0 0))&&((BX ((lF l).getD 1 0) (x.2.getD 1 0))&&((BX ((lF l).getD 2 0) (x.2.getD 2 0))&&((BX ((lF l).getD 3 0) (x.2.getD 3 0))&&((BX ((lF l).getD 4 0) (x.2.getD 4 0))&&true)))))) with
     |true=>rfl
     |false =>
      refine absurd (hr.1 ?_) he;simpa[BX] using hb
   ·rw[Ø (by simp[ine,Ï]; omega),if_neg];intro e;simp only[decide_eq_true_eq] at e;have:=(Ŝ l).length_eq;rw[e] at this;exact hll this.symm
  ·try dsimp only
   unfold qH;rw[Í (by simp[ilt,Ï]; omega)]
  ·cases(List.range m.2.length).all (fun i=>match m.2[i]?,w[i]? with|some m,some l=>decide (lF l=m.2)|_,_=>false)<;>rfl
 ·rw[Ø (by simp[ine,Ï]; omega)];congr 1
  symm
  clear hw
  have key:∀{ms:List Mx} {w:Way},w.length≠ms.length→rt ms w=false:=by
   intro ms
   induction ms with
   |nil=>intro w h; cases w with|nil=>exact absurd rfl h|cons _ _=>rfl
   |cons x ms ih =>
    intro w h
    cases w with
    |nil=>rfl
    |cons l w=>rw[rt,ih (by simpa using h),Bool.and_false]
  exact key hl
def nB (m:ř) (w:Way):Int:=if Ĺ m≠0 then Ĺ m else if rt m.2 w then 0 else 1
def EA {m:ř} (hs:In m.1) (hn:m.2.length≤1000) {w:Way} (hw:∀l∈w,l.length≤100000):pO m w=some (nB m w):=by
 unfold pO J2 nB;rw[mC hs hn,À]
 by_cases hc:Ĺ m=0
 ·rw[Í (by simp[ine,hc]),if_neg (by simp[hc]),ae5 ((Ō m).1 hc) hw,À]
  cases rt m.2 w<;>rfl
 ·rw[Ø (by simp[ine,hc]),if_pos hc]
def jY {m:ř} {w:Way}:nB m w=0↔MOk m∧ő m.2 w:=by
 unfold nB
 by_cases hc:Ĺ m=0
 ·have h:=(Ō m).1 hc;rw[if_neg (by simp[hc])];have:=O1 (w:=w) fun x hx=>(h.mix hx).asc
  cases hi:rt m.2 w with
  |true=>simp[this.1 hi,h]
  |false =>
   exact⟨fun e=>absurd (show(1:Int)=0 from e) (by decide),fun e=>absurd (this.2 e.2) (by simp[hi])⟩
 ·rw[if_pos hc];exact⟨fun e=>absurd e hc,fun⟨e,_⟩=>absurd ((Ō m).2 e) hc⟩
section
variable {ρ:Type}
def yM {α β:Type} (l:List α) (g:α→β) (K:List β→Option ρ) {f:Int×List β→(Int×List β→Option ρ)→Option ρ}
 (h:∀(i:Nat) (a:α),i<l.length→l[i]?=some a→∀(v:List β) kn,v.length=i→f (i,v) kn=kn ((i:Int)+1,v++[g a])) (hn:∀(v:List β) kn,f (l.length,v) kn=K v):Ê f (0,[])=K (l.map g):=by
 refine ĥ l (fun i=>(l.take i).map g) _ rfl (fun i a hi ha kn=>?_) (fun kn=>?_)
 ·rw[h i a hi ha _ kn (by simp; omega),take_succ ha,fe]; rfl
 ·rw[hn,fp]
end
def mE (m:ř) (w:Way) (d:Int) (l:List Int):List Int:=lF (l.map fun x=>jq m.2 w x d)
def aej (m:ř) (w:Way) (c:Cmp):Cmp:=(c.1,c.2.1,mE m w c.2.1 c.2.2.1,mE m w c.2.1 c.2.2.2.1,c.2.2.2.2)
def trP (m:ř) (w:Way):Ė :=
 (m.1.1,m.1.2.1,m.1.2.2.1.map (fun u=>(jq m.2 w u.1 u.2,u.2)),m.1.2.2.2.1.map (fun l=>(jq m.2 w l.1 l.2.1.1,l.2)),m.1.2.2.2.2.1.map (aej m w),m.1.2.2.2.2.2.map (fun n=>(jq m.2 w n.1 n.2,n.2)))
section
variable {ρ:Type} {m:ř} {w:Way}
def MOk.who (h:MOk m) (hw:ő m.2 w) (x d:Int):sh m w x d=some (jq m.2 w x d) :=
 who_ok hw (by have:=h.n4; omega) (fun y hy=>by have:=h.len5 y hy; omega) x d
def tr_L0 (h:MOk m) (hw:ő m.2 w) (k0:List (Int×Int)→Option ρ):Ê (fun(v:Int×List (Int×Int)) kk=>jJ m w m.1.2.2.1 (Ù m.1.2.2.1) v.1 v.2 (fun a b=>kk (a,b)) k0) ((0:Int),[])=k0 (m.1.2.2.1.map fun u=>(jq m.2 w u.1 u.2,u.2)):=by
 have hn:=h.good.nU
 refine yM m.1.2.2.1 (fun u:Int×Int=>((jq m.2 w u.1 u.2,u.2):Int×Int)) k0 (fun i a hi ha v kn hv=>?_) (fun v kn=>?_)<;>(try dsimp only)<;>unfold jJ
 ·rw[Ò hi,È ha,h.who hw,À,ċ (Ú (by simp; omega)),Ì hi (by omega)]
 ·rw[à]
def tr_L1 (h:MOk m) (hw:ő m.2 w) (k0:List Mq→Option ρ):Ê (fun(v:Int×List Mq) kk=>jI m w m.1.2.2.2.1 (Ù m.1.2.2.2.1) v.1 v.2 (fun a b=>kk (a,b)) k0) ((0:Int),[])=k0 (m.1.2.2.2.1.map fun l=>(jq m.2 w l.1 l.2.1.1,l.2)):=by
 have hn:=h.good.nL
 refine yM m.1.2.2.2.1 (fun l:Mq=>((jq m.2 w l.1 l.2.1.1,l.2):Mq)) k0 (fun i a hi ha v kn hv=>?_) (fun v kn=>?_)<;>(try dsimp only)<;>unfold jI
 ·rw[Ò hi,È ha,h.who hw,À,ċ (Ú (by simp; omega)),Ì hi (by omega)]
 ·rw[à]
def Cd (h:MOk m) (hw:ő m.2 w) (d:Int) {l:List Int} (hl:l.length≤1000):iQ l d m w=some (mE m w d l):=by
 unfold iQ pj;rw[yM l (fun x:Int=>(jq m.2 w x d:Int)) (fun z=>è (î z.length) (some (ww z))) (fun i a hi ha v kn hv=>?_) (fun v kn=>?_),ċ (Ú (by simp; omega)),PA]; rfl
 ·try dsimp only
  unfold iz;rw[Ò hi,È ha,h.who hw,À,ċ (Ú (by simp; omega)),Ì hi (by omega)]
 ·try dsimp only
  unfold iz;rw[à]
def tr_L2 (h:MOk m) (hw:ő m.2 w) (k0:List Cmp→Option ρ):Ê (fun(v:Int×List Cmp) kk=>jH m w m.1.2.2.2.2.1 (Ù m.1.2.2.2.2.1) v.1 v.2 (fun a b=>kk (a,b)) k0) ((0:Int),[])=k0 (m.1.2.2.2.2.1.map (aej m w)):=by
 have hn:=h.good.nC
 refine yM m.1.2.2.2.2.1 (aej m w) k0 (fun i a hi ha v kn hv=>?_) (fun v kn=>?_)<;>(try dsimp only)<;>unfold jH
 ·obtain⟨p1,p2⟩:=h.good.size.piles a (cG ha);rw[Ò hi,È ha,Cd h hw _ p1,À,Cd h hw _ p2,À,ċ (Ú (by simp; omega)),Ì hi (by omega)];rfl
 ·rw[à]
def tr_L3 (h:MOk m) (hw:ő m.2 w) (k0:List (Int×Int)→Option ρ):Ê (fun(v:Int×List (Int×Int)) kk=>jG m w m.1.2.2.2.2.2 (Ù m.1.2.2.2.2.2) v.1 v.2 (fun a b=>kk (a,b)) k0) ((0:Int),[])=k0 (m.1.2.2.2.2.2.map fun n=>(jq m.2 w n.1 n.2,n.2)):=by
 have hn:=h.good.nK
 refine yM m.1.2.2.2.2.2 (fun n:Int×Int=>((jq m.2 w n.1 n.2,n.2):Int×Int)) k0 (fun i a hi ha v kn hv=>?_) (fun v kn=>?_)<;>(try dsimp only)<;>unfold jG
 ·rw[Ò hi,È ha,h.who hw,À,ċ (Ú (by simp; omega)),Ì hi (by omega)]
 ·rw[à]
def jZ (h:MOk m) (hw:ő m.2 w):ŧ m w=some (trP m w):=by
 have h1:=h.good.nG;unfold ŧ uq trP;rw[ċ (Ú (by omega)),tr_L0 h hw,tr_L1 h hw,tr_L2 h hw,tr_L3 h hw]
end
def Xs {l:List Int} {x:Int} (h:x∈l):∃k,l.findIdx? (·==x)=some k∧l[k]?=some x:=by
 cases hf:l.findIdx? (·==x) with
 |none =>
  have:=dB.1 hf x h;simp at this
 |some k =>
  obtain⟨hk,he,_⟩:=dI.1 hf;exact⟨k,rfl,by rw[cw hk]; simpa using he⟩
def Rx {l:List Int} {x:Int} (h:x∉l):l.findIdx? (·==x)=none:=by
 rw[dB];intro y hy;simp only[beq_eq_false_iff_ne];exact fun e=>h (e▸hy)
def idx_at {l:List Int} (hn:l.Nodup) {k:Nat} {x:Int} (h:l[k]?=some x):l.findIdx? (·==x)=some k:=by
 obtain⟨j,hj,hx⟩:=Xs (cG h);obtain⟨h1,e1⟩:=cB.1 h;obtain⟨h2,e2⟩:=cB.1 hx;rw[hj,(List.getElem_inj hn).1 (e2.trans e1.symm)]
def Yh {d d0:Int} {l k:List Int} (hl:l.Nodup) (hk:k.Nodup) (hp:l.Perm k) (x:Int):stp d (d0,k) l (stp d (d0,l) k x)=x:=by
 unfold stp
 by_cases hd:d0<d
 ·simp only[if_pos hd]
  by_cases hx:x∈k
  ·obtain⟨i,h1,h2⟩:=Xs hx;rw[h1];dsimp only
   have hi:i<l.length:=by rw[hp.length_eq]; exact(cB.1 h2).1
   have e:l[i]?=some (l.getD i 0):=by rw[dX,cw hi]; rfl
   rw[idx_at hl e];dsimp only;rw[List.getD_eq_getElem?_getD,h2]; rfl
  ·rw[Rx hx];dsimp only;rw[Rx fun h=>hx (hp.subset h)]
 ·simp only[if_neg hd]
def abu {d:Int} {m:Mx} {l:List Int} (hp:l.Perm m.2) (x:Int):stp d m l x=x∨(m.1<d∧x∈m.2∧stp d m l x∈m.2):=by
 unfold stp
 by_cases hd:m.1<d
 ·simp only[if_pos hd]
  by_cases hx:x∈l
  ·obtain⟨i,h1,h2⟩:=Xs hx;rw[h1];dsimp only
   have hi:i<m.2.length:=by rw[←hp.length_eq]; exact(cB.1 h2).1
   exact .inr ⟨hd,hp.subset hx,by rw[dX,cw hi]; exact eT hi⟩
  ·rw[Rx hx];exact .inl rfl
 ·simp only[if_neg hd];exact .inl trivial
def af8:List Mx→Way→Int→Int→Int
 |m::ms,l::ls,x,d=>af8 ms ls (stp d (m.1,l) m.2 x) d
 |_,_,x,_=>x
def ad5 {l:List Int} (h:l.Pairwise (·<·)):l.Nodup:=h.imp fun h=>Int.ne_of_lt h
def abf:∀{ms:List Mx} {w:Way},ő ms w→(∀x∈ms,x.2.Nodup)→∀x d,jq ms w (af8 ms w x d) d=x
 |[],[],_,_,x,d=>rfl
 |m::ms,l::ls,h,hn,x,d=>by
  rw[af8,jq,abf h.2 fun y hy=>hn y (dk _ hy)];exact Yh (d0:=m.1) (h.1.nodup_iff.2 (hn m (by simp))) (hn m (by simp)) h.1 x
def Xk:∀{ms:List Mx} {w:Way},ő ms w→(∀x∈ms,x.2.Nodup)→∀x d,af8 ms w (jq ms w x d) d=x
 |[],[],_,_,x,d=>rfl
 |m::ms,l::ls,h,hn,x,d=>by
  rw[af8,jq];have:=Yh (d:=d) (d0:=m.1) (l:=m.2) (k:=l) (hn m (by simp)) (h.1.nodup_iff.2 (hn m (by simp))) h.1.symm (jq ms ls x d);rw[show stp d (m.1,l) m.2 (stp d m l (jq ms ls x d))=_ from this];exact Xk h.2 (fun y hy=>hn y (dk _ hy)) x d
def abg:∀{ms:List Mx} {w:Way} (Q:Int→Prop) {d:Int},ő ms w→(∀m∈ms,m.1<d→∀x∈m.2,Q x)→∀{x:Int},Q x→Q (jq ms w x d)
 |[],[],Q,d,_,_,x,hx=>hx
 |m::ms,l::ls,Q,d,h,hm,x,hx=>by
  have:=abg (x:=x) Q h.2 (fun y hy=>hm y (dk _ hy)) hx;rw[jq];rcases abu (d:=d) h.1 (jq ms ls x d) with e|⟨e1,_,e2⟩
  ·rw[e]; exact this
  ·exact hm m (by simp) e1 _ e2
def Ih:∀{ms:List Mx} {w:Way} {d:Int},ő ms w→∀{x:Int},(∀m∈ms,m.1<d→x∉m.2)→jq ms w x d=x
 |[],[],d,_,x,_=>rfl
 |m::ms,l::ls,d,h,x,hm=>by
  rw[jq,Ih h.2 fun y hy=>hm y (dk _ hy)];rcases abu (d:=d) h.1 x with e|⟨e1,e2,_⟩
  ·exact e
  ·exact absurd e2 (hm m (by simp) e1)
def Sr:∀{ms:List Mx} {w:Way} {d e:Int},ő ms w→ms.Pairwise (fun a b=>a.1<b.1)→d≤e→∀{x:Int},(∀m∈ms,d≤m.1→m.1<e→x∉m.2)→jq ms w x e=jq ms w x d
 |[],[],d,e,_,_,_,x,_=>rfl
 |m::ms,l::ls,d,e,h,hs,hde,x,hm=>by
  rw[dj] at hs;rcases gH m.1 d with hlt|hge
  ·rw[jq,jq,Sr h.2 hs.2 hde fun y hy=>hm y (dk _ hy)]
   have e1:∀y,stp e m l y=stp d m l y:=fun y=>by unfold stp; rw[if_pos hlt,if_pos (by omega)]
   exact e1 _
  ·have e1:jq (m::ms) (l::ls) x e=x:=Ih h fun y hy hye=>by
    rcases cF.1 hy with rfl|hy'
    ·exact hm y (by simp) hge hye
    ·exact hm y hy (by have:=hs.1 y hy'; omega) hye
   have e2:jq (m::ms) (l::ls) x d=x:=Ih h fun y hy hyd=>by
    rcases cF.1 hy with rfl|hy'
    ·omega
    ·have:=hs.1 y hy'; omega
   rw[e1,e2]
def Cz {b:Ė} (hi:b.2.1.Pairwise fun a b=>a.1<b.1) {id day:Int}:mH (iB b) id day=0↔∃g,ĉ b id=some g∧g.2.1≤day:=by
 rw[←V5 hi];unfold Gu
 cases ĉ b id with
 |none=>simp
 |some g =>
  dsimp only
  by_cases h:day<g.2.1
  ·rw[if_pos h]; simp; omega
  ·rw[if_neg h]; simp; omega
def B8 {b:Ė} (hi:b.2.1.Pairwise fun a b=>a.1<b.1) {id day:Int}:abn (iB b) id day=0↔Ph day=true∧∃g,ĉ b id=some g∧g.2.1≤day:=by
 unfold abn
 cases Ph day with
 |false=>simp
 |true=>simp[Cz hi]
def UM {b:Ė} (hi:b.2.1.Pairwise fun a b=>a.1<b.1) {i:Nat} {l:Mq}:Ro b (iB b) i l=0↔od l.2.1 0 20000=true∧inP l.2.2 0 1048576=true∧(∃g,ĉ b l.1=some g∧g.2.1≤l.2.1.1) ∧
 (∀x∈b.2.2.2.1.take i,x.1=l.1→¬(x.2.1.1≤l.2.1.2∧l.2.1.1≤x.2.1.2))∧∀u∈b.2.2.1,u.1=l.1→inP u.2 l.2.1.1 l.2.1.2=false:=by
 unfold Ro;rw[←Cz hi]
 cases od l.2.1 0 20000 with
 |false=>simp
 |true =>
  cases inP l.2.2 0 1048576 with
  |false=>simp
  |true =>
   by_cases h:mH (iB b) l.1 l.2.1.1=0
   ·simp only[h,dw,cQ,if_false,bne_self_eq_false,true_and]
    split
    ·rename_i h1;simp only[dc,cA,beq_iff_eq,decide_eq_true_eq] at h1;obtain⟨x,hx,e1,e2⟩:=h1;exact⟨fun e=>absurd e (by decide),fun e=>absurd e2 (e.1 x hx e1)⟩
    ·rename_i h1;simp only[dc,cA,beq_iff_eq,decide_eq_true_eq,not_exists,not_and] at h1
     split
     ·rename_i h2;simp only[dc,cA,beq_iff_eq] at h2;obtain⟨u,hu,e1,e2⟩:=h2;exact⟨fun e=>absurd e (by decide),fun e=>by have:=e.2 u hu e1; rw[e2] at this; cases this⟩
     ·rename_i h2;simp only[dc,cA,beq_iff_eq,not_exists,not_and] at h2;exact⟨fun _=>⟨fun x hx e ⟨p,q⟩=>h1 x hx e p q,fun u hu e=>by simpa using h2 u hu e⟩,fun _=>rfl⟩
   ·simp[h]
def Og {b:Ė} (hi:b.2.1.Pairwise fun a b=>a.1<b.1) {c:Cmp}:wB b (iB b) c=0↔(∀x∈c.2.2.1++c.2.2.2.1,(∃g,ĉ b x=some g∧g.2.1≤c.2.1)∧lm b x c.2.1=none) ∧
 (ü c.2.2.1 c.2.2.2.1).length≤1∧(ü c.2.2.2.1 c.2.2.1).length≤1∧(ü c.2.2.1 c.2.2.2.1).length+(ü c.2.2.2.1 c.2.2.1).length≠0:=by
 unfold wB;constructor
 ·intro h
  split at h
  ·cases h
  rename_i h1
  split at h
  ·cases h
  rename_i h2
  split at h
  ·cases h
  rename_i h3
  split at h
  ·cases h
  split at h
  ·cases h
  split at h
  ·cases h
  simp only[dc,not_exists,not_and,beq_iff_eq] at h1 h2;simp only[dc,not_exists,not_and,Option.isSome_iff_ne_none,ne_eq,Decidable.not_not] at h3;refine⟨fun x hx=>⟨(Cz hi).1 ?_,h3 x hx⟩,by omega,by omega,by omega⟩;rcases Jw (iB b) x c.2.1 with e|e|e
  ·exact e
  ·exact absurd e (h2 x hx)
  ·exact absurd e (h1 x hx)
 ·intro⟨h1,h2,h3,h4⟩;have hz:∀x∈c.2.2.1++c.2.2.2.1,mH (iB b) x c.2.1=0:=fun x hx=>(Cz hi).2 (h1 x hx).1;rw[if_neg,if_neg,if_neg,if_neg (by omega),if_neg (by omega),if_neg h4]
  ·simp only[dc,not_exists,not_and,Option.isSome_iff_ne_none,ne_eq,Decidable.not_not];exact fun x hx=>(h1 x hx).2
  ·simp only[dc,not_exists,not_and,beq_iff_eq]
   exact fun x hx e=>by rw[hz x hx] at e; cases e
  ·simp only[dc,not_exists,not_and,beq_iff_eq]
   exact fun x hx e=>by rw[hz x hx] at e; cases e
def Gg {b:Ė} {x d:Int}:lm b x d=none↔∀l∈b.2.2.2.1,l.1=x→inP d l.2.1.1 l.2.1.2=false:=by
 unfold lm;rw[List.find?_eq_none];simp
def wC {m:ř} {w:Way} {d:Int} {l:List Int} {y:Int}:y∈mE m w d l↔∃x∈l,jq m.2 w x d=y:=by
 unfold mE;rw[(Ŝ _).mem_iff,List.mem_map]
section
variable {m:ř} {w:Way}
def MOk.nd (h:MOk m):∀x∈m.2,x.2.Nodup:=fun x hx=>ad5 (h.mix hx).asc
def MOk.inj (h:MOk m) (hw:ő m.2 w) {d x y:Int} (e:jq m.2 w x d=jq m.2 w y d):x=y:=by
 rw[←Xk hw h.nd x d,e,Xk hw h.nd]
def MOk.whoG (h:MOk m) (hw:ő m.2 w) {d x:Int} (hx:∃g,ĉ m.1 x=some g∧g.2.1≤d):∃g,ĉ m.1 (jq m.2 w x d)=some g∧g.2.1≤d :=
 abg (fun y=>∃g,ĉ m.1 y=some g∧g.2.1≤d) hw (fun y hy hd z hz=>by
  obtain⟨g,h1,h2⟩:=(h.mix hy).known z hz
  exact⟨g,h1,by omega⟩) hx
def MOk.made (h:MOk m) (hw:ő m.2 w) {x:Int} {g:ý} (hg:ĉ m.1 x=some g):jq m.2 w x g.2.1=x :=
 Ih hw fun y hy hd hx=>by
  obtain⟨g',h1,h2⟩:=(h.mix hy).known x hx;rw[hg] at h1; cases h1;omega
def MOk.loan (h:MOk m) (hw:ő m.2 w) {l:Mq} (hl:l∈m.1.2.2.2.1) {d:Int} (hd:inP d l.2.1.1 l.2.1.2=true):jq m.2 w l.1 d=jq m.2 w l.1 l.2.1.1:=by
 simp only[inP,cA,decide_eq_true_eq] at hd;refine Sr hw h.days hd.1 fun y hy h1 h2 hx=>?_;have:=(Gg.1 ((h.mix hy).home _ hx).1) l hl rfl;simp only[inP,Bool.and_eq_false_iff,decide_eq_false_iff_not] at this;omega
def acI (h:MOk m) (hw:ő m.2 w) (d:Int) (A B:List Int):(ü (mE m w d A) (mE m w d B)).Perm ((ü A B).map fun x=>jq m.2 w x d):=by
 unfold ü;refine((Ŝ _).filter _).trans ?_;rw[List.filter_map];refine List.Perm.of_eq ?_;congr 1;refine List.filter_congr fun x hx=>?_;simp only[Function.comp];congr 1;rw[Bool.eq_iff_iff,List.contains_iff_mem,List.contains_iff_mem,wC];exact⟨fun⟨y,hy,e⟩=>h.inj hw e▸hy,fun hy=>⟨x,hy,rfl⟩⟩
def Yv (h:MOk m) (hw:ő m.2 w) {d:Int} {l:List Int} (hp:wD l=true) (hk:∀x∈l,∃g,ĉ m.1 x=some g∧g.2.1≤d):wD (mE m w d l)=true:=by
 obtain⟨h1,h2,h3⟩:=(Jb l).1 hp;refine(Jb _).2 ⟨fun y hy=>?_,?_,by unfold mE; rw[(Ŝ _).length_eq,List.length_map]; exact h3⟩
 ·obtain⟨x,hx,rfl⟩:=wC.1 hy;obtain⟨g,hg,_⟩:=h.whoG hw (hk x hx);obtain⟨g1,g2⟩:=iN hg;have:=(h.good.gaugeR g1).2.2.2.1;rw[←g2]; exact this
 ·have hnd:(mE m w d l).Nodup:=by
   unfold mE;rw[(Ŝ _).nodup_iff];exact List.pairwise_map.2 (h2.imp fun hlt e=>by have:=h.inj hw e; omega)
  exact((kO _).and hnd).imp fun⟨a,b⟩=>Int.lt_iff_le_and_ne.2 ⟨a,b⟩
def agv (h:MOk m) (hw:ő m.2 w) {x d:Int} (ha:lm m.1 x d=none):lm (trP m w) (jq m.2 w x d) d=none:=by
 rw[Gg];intro l' hl' e;obtain⟨l,hl,rfl⟩:=di.1 hl'
 cases hd:inP d l.2.1.1 l.2.1.2 with
 |false=>rfl
 |true =>
  rw[←h.loan hw hl hd] at e;have:=Gg.1 ha l hl (h.inj hw e);rw[hd] at this; cases this
def Jl {b:Ė} (hi:b.2.1.Pairwise fun a b=>a.1<b.1):(Ô b).Nodup:=by
 unfold Ô List.Nodup;rw[List.pairwise_flatMap];refine⟨fun g _=>List.pairwise_map.2 ((vy b g).imp fun h e=>by cases e; omega),hi.imp fun hlt x hx y hy e=>?_⟩;obtain⟨d,_,rfl⟩:=List.mem_map.1 hx;obtain⟨d',_,rfl⟩:=List.mem_map.1 hy;simp only[Prod.mk.injEq] at e;omega
def wL {b:Ė} {x d:Int}:(x,d)∈Ô b↔∃g∈b.2.1,g.1=x∧d∈æ b g:=by
 unfold Ô;simp only[List.mem_flatMap,List.mem_map];constructor
 ·rintro⟨g,hg,d',hd,e⟩;cases e;exact⟨g,hg,rfl,hd⟩
 ·rintro⟨g,hg,rfl,hd⟩;exact⟨g,hg,d,hd,rfl⟩
def zd (h:MOk m) (hw:ő m.2 w) {d:Int} {A:List Int} {x:Int}:(mE m w d A).contains (jq m.2 w x d)=A.contains x:=by
 rw[gj,eX,eX,wC];exact⟨fun⟨y,hy,e⟩=>h.inj hw e▸hy,fun hy=>⟨x,hy,rfl⟩⟩
def agu (h:MOk m) (hw:ő m.2 w) {x d:Int} (hn:(x,d)∈Ô m.1):(jq m.2 w x d,d)∈Ô (trP m w):=by
 obtain⟨g,hg,rfl,hd⟩:=wL.1 hn;have hgo:=vq h.good.ids hg;obtain⟨g',e1,_⟩:=h.whoG hw (x:=g.1) (d:=d) ⟨g,hgo,(h.good.day hg hd).1⟩;obtain⟨e2,e3⟩:=iN e1;refine wL.2 ⟨g',e2,e3,gK.2 ?_⟩;rcases gK.1 hd with rfl|⟨c,hc,e4,rfl⟩|⟨n,hnn,e4,rfl⟩
 ·rw[h.made hw hgo,hgo] at e1;cases e1;exact .inl rfl
 ·refine .inr (.inl ⟨aej m w c,di.2 ⟨c,hc,rfl⟩,?_,rfl⟩);rw[e3];show(mE m w c.2.1 c.2.2.1).contains _≠(mE m w c.2.1 c.2.2.2.1).contains _;rw[zd h hw,zd h hw];exact e4
 ·exact .inr (.inr ⟨_,di.2 ⟨n,hnn,rfl⟩,by rw[e3,e4],rfl⟩)
def SF (h:MOk m) (hw:ő m.2 w) {y d:Int} (hn:(y,d)∈Ô (trP m w)):∃x,jq m.2 w x d=y∧(x,d)∈Ô m.1:=by
 obtain⟨g,hg,rfl,hd⟩:=wL.1 hn;have hg:g∈m.1.2.1:=hg;have hgo:=vq h.good.ids hg;have hx:jq m.2 w (af8 m.2 w g.1 d) d=g.1:=abf hw h.nd _ _
 have fin:∀x,jq m.2 w x d=g.1→(∃g',ĉ m.1 x=some g')→(∀g':ý,g'.1=x→d∈æ m.1 g')→∃x,jq m.2 w x d=g.1∧(x,d)∈Ô m.1:=fun x e ⟨g',e1⟩ e2=>by
  obtain⟨e3,e4⟩:=iN e1;exact⟨x,e,wL.2 ⟨g',e3,e4,e2 g' e4⟩⟩
 rcases gK.1 hd with e|⟨c',hc',e4,e5⟩|⟨n',hn',e4,e5⟩
 ·subst e;exact⟨g.1,h.made hw hgo,wL.2 ⟨g,hg,rfl,rI g⟩⟩
 ·obtain⟨c,hc,rfl⟩:=di.1 hc';have e5:c.2.1=d:=e5;subst e5;have e4:(mE m w c.2.1 c.2.2.1).contains g.1≠(mE m w c.2.1 c.2.2.2.1).contains g.1:=e4;rw[←hx,zd h hw,zd h hw] at e4;refine fin _ hx ?_ fun g' e=>gK.2 (.inr (.inl ⟨c,hc,by rw[e]; exact e4,rfl⟩))
  have:af8 m.2 w g.1 c.2.1∈c.2.2.1++c.2.2.2.1:=by
   rw[cE,←eX,←eX]
   cases h1:c.2.2.1.contains (af8 m.2 w g.1 c.2.1) with
   |true=>exact .inl rfl
   |false =>
    rw[h1] at e4;exact .inr (by simpa using e4)
  obtain⟨⟨g',e,_⟩,_⟩:=h.good.pile hc this;exact⟨g',e⟩
 ·obtain⟨n,hnl,rfl⟩:=di.1 hn';have e5:n.2=d:=e5;have e4:jq m.2 w n.1 n.2=g.1:=e4;subst e5;obtain⟨_,g',e,_⟩:=(B8 h.good.ids).1 (h.good.looks n hnl);exact fin n.1 e4 ⟨g',e⟩ fun g'' e=>gK.2 (.inr (.inr ⟨n,hnl,e.symm,rfl⟩))
def aeS (m:ř) (w:Way) (n:Int×Int):Int×Int:=(jq m.2 w n.1 n.2,n.2)
def afY (h:MOk m):(trP m w).2.1.Pairwise fun a b=>a.1<b.1:=h.good.ids
def tr_len (h:MOk m) (hw:ő m.2 w):(Ô (trP m w)).length=(Ô m.1).length:=by
 have h1:(Ô (trP m w)).length≤((Ô m.1).map (aeS m w)).length:=fR (Jl (afY h)) fun n hn=>by
  obtain⟨x,e,hx⟩:=SF (y:=n.1) (d:=n.2) h hw hn;exact di.2 ⟨(x,n.2),hx,Prod.ext e rfl⟩
 have h2:((Ô m.1).map (aeS m w)).length≤(Ô (trP m w)).length:=by
  have hnd:((Ô m.1).map (aeS m w)).Nodup:=by
   refine List.pairwise_map.2 ((Jl h.good.ids).imp ?_);intro a b hne e;unfold aeS at e;simp only[Prod.mk.injEq] at e;obtain⟨e1,e2⟩:=e;rw[e2] at e1;exact hne (Prod.ext (h.inj hw e1) e2)
  refine fR hnd fun n hn=>?_;obtain⟨⟨x,d⟩,hx,rfl⟩:=di.1 hn;exact agu h hw hx
 rw[dv] at h1 h2;omega
def rM (h:MOk m) (hw:ő m.2 w):ż (trP m w):=by
 have hg:=h.good;have hids:=afY (w:=w) h;have hsh:iB (trP m w)=iB m.1:=rfl;have hgo:∀x,ĉ (trP m w) x=ĉ m.1 x:=fun _=>rfl;have hlen:=tr_len h hw;refine⟨hg.film,hg.nG,by simpa[trP] using hg.nU,by simpa[trP] using hg.nL,by simpa[trP] using hg.nC,by simpa[trP] using hg.nK,hg.gauge,hids,?_,?_,?_,?_,by rw[hlen]; exact hg.nodes,by rw[hlen]; simpa[trP] using hg.links⟩
 ·intro u' hu';obtain⟨u,hu,rfl⟩:=di.1 hu';obtain⟨e1,e2⟩:=(B8 hg.ids).1 (hg.uses u hu);exact(B8 hids).2 ⟨e1,h.whoG hw e2⟩
 ·intro i l' hl'
  obtain⟨l,hl,rfl⟩:∃l,m.1.2.2.2.1[i]?=some l∧(jq m.2 w l.1 l.2.1.1,l.2)=l':=by
   have:(m.1.2.2.2.1.map (fun l:Mq=>(jq m.2 w l.1 l.2.1.1,l.2)))[i]?=some l':=hl';rw[eh] at this
   cases hx:m.1.2.2.2.1[i]? with
   |none=>rw[hx] at this; cases this
   |some l=>rw[hx] at this; exact⟨l,rfl,by simpa using this⟩
  have hlm:=cG hl;obtain⟨e1,e2,e3,e4,e5⟩:=(UM hg.ids).1 (hg.loans i l hl);refine(UM hids).2 ⟨e1,e2,h.whoG hw e3,fun x' hx' ex hov=>?_,fun u' hu' eu=>?_⟩
  ·have hx':x'∈(m.1.2.2.2.1.map (fun l:Mq=>(jq m.2 w l.1 l.2.1.1,l.2))).take i:=hx';rw[←List.map_take] at hx';obtain⟨x,hx,rfl⟩:=List.mem_map.1 hx';have hxm:=List.mem_of_mem_take hx;have s1:=(tF hg hxm).1;have s2:=(tF hg hlm).1;dsimp only at ex hov
   have d1:inP (max x.2.1.1 l.2.1.1) x.2.1.1 x.2.1.2=true:=by simp[inP]; omega
   have d2:inP (max x.2.1.1 l.2.1.1) l.2.1.1 l.2.1.2=true:=by simp[inP]; omega
   rw[←h.loan hw hxm d1,←h.loan hw hlm d2] at ex;exact e4 x hx (h.inj hw ex) hov
  ·obtain⟨u,hu,rfl⟩:=List.mem_map.1 hu';dsimp only at eu ⊢
   cases hd:inP u.2 l.2.1.1 l.2.1.2 with
   |false=>rfl
   |true =>
    rw[←h.loan hw hlm hd] at eu;have:=e5 u hu (h.inj hw eu);rw[hd] at this; cases this
 ·intro i c' hc'
  obtain⟨c,hc,rfl⟩:∃c,m.1.2.2.2.2.1[i]?=some c∧aej m w c=c':=by
   have:(m.1.2.2.2.2.1.map (aej m w))[i]?=some c':=hc';rw[eh] at this
   cases hx:m.1.2.2.2.2.1[i]? with
   |none=>rw[hx] at this; cases this
   |some l=>rw[hx] at this; exact⟨l,rfl,by simpa using this⟩
  have hcm:=cG hc;obtain⟨n1,n2,n3,n4,n5,n6,n7⟩:=(ks c).1 (hg.nums hcm);have hp:=(Og hg.ids).1 (hg.pilesOf hcm);have hk:∀x∈c.2.2.1++c.2.2.2.1,∃g,ĉ m.1 x=some g∧g.2.1≤c.2.1:=fun x hx=>(hp.1 x hx).1;have hnum:Z8 (aej m w c)=true:=(ks _).2 ⟨n1,n2,n3,n4,n5,Yv h hw n6 fun x hx=>hk x (dm _ hx),Yv h hw n7 fun x hx=>hk x (dl _ hx)⟩;have l1:=(acI h hw c.2.1 c.2.2.1 c.2.2.2.1).length_eq;have l2:=(acI h hw c.2.1 c.2.2.2.1 c.2.2.1).length_eq;rw[dv] at l1 l2
  have hpi:wB (trP m w) (iB (trP m w)) (aej m w c)=0:=by
   refine(Og hids).2 ⟨fun y hy=>?_,?_,?_,?_⟩
   ·have hy:y∈mE m w c.2.1 c.2.2.1++mE m w c.2.1 c.2.2.2.1:=hy
    obtain⟨x,hx,rfl⟩:∃x∈c.2.2.1++c.2.2.2.1,jq m.2 w x c.2.1=y:=by
     rcases cE.1 hy with hy|hy
     ·obtain⟨x,hx,e⟩:=wC.1 hy;exact⟨x,dm _ hx,e⟩
     ·obtain⟨x,hx,e⟩:=wC.1 hy;exact⟨x,dl _ hx,e⟩
    exact⟨h.whoG hw (hk x hx),agv h hw (hp.1 x hx).2⟩
   ·show(ü (mE m w c.2.1 c.2.2.1) (mE m w c.2.1 c.2.2.2.1)).length≤1;rw[l1]; exact hp.2.1
   ·show(ü (mE m w c.2.1 c.2.2.2.1) (mE m w c.2.1 c.2.2.1)).length≤1;rw[l2]; exact hp.2.2.1
   ·show(ü (mE m w c.2.1 c.2.2.1) (mE m w c.2.1 c.2.2.2.1)).length+(ü (mE m w c.2.1 c.2.2.2.1) (mE m w c.2.1 c.2.2.1)).length≠0;rw[l1,l2]; exact hp.2.2.2
  have h0:=hg.compares i c hc;unfold oF at h0 ⊢;rw[hg.nums hcm] at h0;rw[hnum,hpi]
  have ht:((trP m w).2.2.2.2.1.take i).any (fun x=>x.1==(aej m w c).1)=(m.1.2.2.2.2.1.take i).any fun x=>x.1==c.1:=by
   show((m.1.2.2.2.2.1.map (aej m w)).take i).any _=_;rw[←List.map_take,List.any_map]; rfl
  rw[ht];simp only[dw,cQ,if_false] at h0 ⊢
  split at h0
  ·cases h0
  ·rename_i h1; rw[if_neg h1]
 ·intro n' hn';obtain⟨n,hn,rfl⟩:=di.1 hn';obtain⟨e1,e2⟩:=(B8 hg.ids).1 (hg.looks n hn);exact(B8 hids).2 ⟨e1,h.whoG hw e2⟩
end
section
variable {L:List Lk} {N:Nat}
def Sn (h:g9 L N):mz ((N:Int),L)=some (iq L N,0):=by
 have h2:=h.n60;unfold mz rW;rw[jd h,À];dsimp only;rw[Í (by rfl),ud h.links h.n1 (by omega),À]
 cases iq L N<;>rfl
end
def X4 (x y:List Int):List Int×List Int×Int:=if !wD x then([],[],1) else if !wD y then([],[],1) else(ü x y,ü y x,0)
def aef {x y:List Int} (hx:x.length≤100000) (hy:y.length≤100000):oW x y=some (X4 x y):=by
 unfold oW FR X4;rw[D2 (by omega),À]
 cases wD x with
 |false=>rfl
 |true =>
  rw[D2 (by omega),À]
  cases wD y with
  |false=>rfl
  |true =>
   rw[xW (by omega) (by omega),À,xW (by omega) (by omega),À];rfl
def less (b:Ė) (ids:List Int):Ė:=(b.1,b.2.1,b.2.2.1,b.2.2.2.1,b.2.2.2.2.1.filter (fun c=>!ids.contains c.1),b.2.2.2.2.2)
section
variable {b:Ė} {ids:List Int}
def ż.distinct (h:ż b):b.2.2.2.2.1.Pairwise fun a c=>a.1≠c.1:=by
 rw[List.pairwise_iff_getElem];intro i j hi hj hij he;have hz:=h.compares j _ (List.getElem?_eq_getElem hj);unfold oF at hz
 have hany:(b.2.2.2.2.1.take j).any (fun x=>x.1==b.2.2.2.2.1[j].1)=true:=by
  rw[dc];exact⟨b.2.2.2.2.1[i],cM.2 ⟨i,by rw[cT]; omega,by rw[eM]⟩,by simp[he]⟩
 rw[hany] at hz
 (repeat' split at hz)<;>first|omega|simp_all
def ac0 {α β:Type} (f g:α→List β):∀l:List α,(∀a∈l,(f a).length≤(g a).length)→(l.flatMap f).length≤(l.flatMap g).length
 |[],_=>cz _
 |a::l,h=>by
  rw[du,du,cD,cD];have:=h a (by simp);have:=ac0 f g l fun c hc=>h c (by simp[hc]);omega
def lt_len:∀{x y:List Int},x.Pairwise (·<·)→(∀a∈x,a∈y)→x.length≤y.length:=by
 intro x y hx h;exact(fR (hx.imp fun h=>by omega) h)
def ż.less (h:ż b) (ids:List Int):ż (less b ids):=by
 have hsub:∀c∈(ZzM.less b ids).2.2.2.2.1,c∈b.2.2.2.2.1:=fun c hc=>(dL.1 hc).1;have hlen:(ZzM.less b ids).2.2.2.2.1.length≤b.2.2.2.2.1.length:=dV _ _
 have hdays:∀g,(æ (ZzM.less b ids) g).length≤(æ b g).length:=fun g=>lt_len (vy _ g) fun d hd=>by
  rcases gK.1 hd with e|⟨c,hc,h1,h2⟩|hn
  ·exact gK.2 (.inl e)
  ·exact gK.2 (.inr (.inl ⟨c,hsub c hc,h1,h2⟩))
  ·exact gK.2 (.inr (.inr hn))
 have hnodes:(Ô (ZzM.less b ids)).length≤(Ô b).length:=ac0 _ _ _ fun g _=>by rw[dv,dv]; exact hdays g
 have hN:=h.nodes;have hC:=h.nC;refine⟨h.film,h.nG,h.nU,h.nL,Nat.le_trans hlen h.nC,h.nK,h.gauge,h.ids,h.uses,h.loans,fun i c hc=>?_,h.looks,Nat.le_trans hnodes hN,by omega⟩;have hcm:=hsub c (List.mem_of_getElem? hc);obtain⟨j,hj,hjc⟩:=List.mem_iff_getElem.1 hcm;have hz:=h.compares j c (by rw[List.getElem?_eq_getElem hj,hjc]);unfold oF at hz ⊢
 split at hz
 ·omega
 rename_i h1
 split at hz
 ·omega
 rw[if_neg h1,if_neg ?_]
 ·exact hz
 ·intro hany;obtain⟨x,hx,he⟩:=dc.1 hany;obtain⟨k,hk,hkx⟩:=cM.1 hx;rw[cT] at hk;rw[eM] at hkx;obtain⟨hi,hic⟩:=cB.1 hc;have hp:=df.1 ((h.distinct.sublist List.filter_sublist:(ZzM.less b ids).2.2.2.2.1.Pairwise fun a c=>a.1≠c.1)) k i (by omega) hi (by omega);rw[hkx,hic] at hp;exact hp (eq_of_beq he)
end
abbrev zC:Cmp:=((0:Int),(0:Int),[],[],(0:Int),(0:Int),(0:Int),(0:Int))
section
variable {ρ α:Type}
def adj (z0:α) (K:List α→Option ρ) (z:Int×List α):Option ρ :=
 è ((ile (0:Int) z.1)&&(ile z.1 (ò z.2))) (è ((ile (0:Int) z.1)&&(ile z.1 (ò (List.take (Int.toNat z.1) z.2++List.replicate (List.length z.2-(Int.toNat z.1)) z0++List.drop ((Int.toNat z.1)+(List.length z.2-(Int.toNat z.1))) z.2))))
  (K (List.take (Int.toNat z.1) (List.drop 0 (List.take (Int.toNat z.1) z.2++List.replicate (List.length z.2-(Int.toNat z.1)) z0++List.drop ((Int.toNat z.1)+(List.length z.2-(Int.toNat z.1))) z.2)))))
def XE (z0:α) (K:List α→Option ρ) {i:Nat} {s:List α} (h:i≤s.length):adj z0 K ((i:Int),s)=K (s.take i):=by
 unfold adj
 have g1:((ile (0:Int) (i:Int))&&(ile (i:Int) (ò s)))=true:=by simp[ile,ò]; omega
 dsimp only;rw[ċ g1]
 have g2:((ile (0:Int) (i:Int))&&(ile (i:Int) (ò (List.take (Int.toNat (i:Int)) s++List.replicate (List.length s-(Int.toNat (i:Int))) z0++List.drop ((Int.toNat (i:Int))+(List.length s-(Int.toNat (i:Int)))) s))))=true:=by
  simp[ile,ò]; omega
 rw[ċ g2,cP,List.drop_zero,cJ,fh (by simp; omega),List.take_take,Nat.min_self]
def aaG (p:α→Bool) {a:List α} {F:Int→Int→List α→(Int→Int→List α→Option ρ)→Option ρ} {k0:Int×List α→Option ρ} {K:List α→Option ρ}
 (hF:∀(i j:Nat) (s:List α) (x:α),s.length=a.length→i<j→j<s.length→s[j]?=some x→x∈a→∀kn,F i j s kn=if p x then kn ((i:Int)+1) ((j:Int)+1) (s.set i x) else kn i ((j:Int)+1) s)
 (hE:∀(i:Nat) (s:List α) kn,i≤s.length→s.length=a.length→F i s.length s kn=k0 ((i:Int),s)) (hk:∀(i:Nat) (s:List α),i≤s.length→k0 ((i:Int),s)=K (s.take i))
 {z:Nat} (hz:z<a.length) (hp:∀x∈a.take z,p x=true) (hc:∀c,a[z]?=some c→p c=false) :
 Ê (fun(v:Int×Int×List α) kk=>F v.1 v.2.1 v.2.2 (fun x y w=>kk (x,y,w))) ((z:Int),((z:Int)+1),a)=K (a.filter p):=by
 refine Ę (fun x:Int×Int×List α=>∃i j:Nat,x.1=i∧x.2.1=j∧i<j∧j≤a.length∧x.2.2.length=a.length∧x.2.2.take i=(a.take j).filter p∧x.2.2.drop j=a.drop j) (fun x=>a.length-x.2.1.toNat) ?_
  ⟨z,z+1,rfl,by simp,by omega,by omega,rfl,?_,rfl⟩
 ·rintro⟨x1,x2,s⟩ ⟨i,j,h1,h2,hij,hja,hl,ht,hd⟩;simp only at h1 h2 hl ht hd;subst h1 h2;rcases cV j a.length with hj|hj
  ·refine .inr ?_
   have hsj:s[j]?=some a[j]:=by
    have h3:(s.drop j)[0]?=(a.drop j)[0]?:=by rw[hd]
    rw[dZ,dZ] at h3;simpa[cw hj] using h3
   have hta:(a.take (j+1)).filter p=(a.take j).filter p++if p a[j] then[a[j]] else[]:=by
    rw[take_succ (cw hj),eG];congr 1
    cases h:p a[j]<;>simp[h]
   have hdd:s.drop (j+1)=a.drop (j+1):=by
    have:=congrArg (List.drop 1) hd;simpa[fJ,Nat.add_comm] using this
   have hf:=hF i j s a[j] hl hij (by omega) hsj (eT hj)
   cases h:p a[j] with
   |false =>
    refine⟨(i,(j:Int)+1,s),⟨i,j+1,rfl,by simp,by omega,by omega,hl,?_,hdd⟩,by simp; omega,fun kn=>by dsimp only; rw[hf,h]; rfl⟩;rw[hta,h]; simpa using ht
   |true =>
    have his:i<s.length:=by omega
    refine⟨((i:Int)+1,(j:Int)+1,s.set i a[j]),⟨i+1,j+1,by simp,by simp,by omega,by omega,by simpa using hl,?_,?_⟩,by simp; omega,fun kn=>by dsimp only; rw[hf,h]; rfl⟩
    ·show List.take (i+1) (s.set i a[j])=_;rw[hta,h,List.take_add_one,fE,List.take_set_of_le (cz i),ht];simp[his]
    ·show List.drop (j+1) (s.set i a[j])=_;rw[List.drop_set_of_lt (by omega)];exact hdd
  ·refine .inl fun kn=>?_
   have hje:j=s.length:=by omega
   try dsimp only
   rw[hje,hE i s _ (by omega) hl,hk i s (by omega),ht,dT (by omega)]
 ·show List.take z a=(a.take (z+1)).filter p;have hz':a[z]?=some a[z]:=cw hz;rw[take_succ hz',eG,gd.2 hp];simp[hc _ hz']
def XD (p:α→Bool) {a:List α} {F1:Int→(Int→Option ρ)→Option ρ} {F:Int→Int→List α→(Int→Int→List α→Option ρ)→Option ρ} {k0:Int×List α→Option ρ} {K:List α→Option ρ} {kf:Int→Option ρ} {kend:Option ρ}
 (h1:∀(i:Nat) (x:α),i<a.length→a[i]?=some x→∀kn,F1 i kn=if !p x then kf i else kn ((i:Int)+1)) (h1e:∀kn,F1 a.length kn=kend) (hend:kend=K a)
 (hkf:∀z:Nat,z<a.length→kf z=Ê (fun(v:Int×Int×List α) kk=>F v.1 v.2.1 v.2.2 (fun x y w=>kk (x,y,w))) ((z:Int),((z:Int)+1),a))
 (hF:∀(i j:Nat) (s:List α) (x:α),s.length=a.length→i<j→j<s.length→s[j]?=some x→x∈a→∀kn,F i j s kn=if p x then kn ((i:Int)+1) ((j:Int)+1) (s.set i x) else kn i ((j:Int)+1) s)
 (hE:∀(i:Nat) (s:List α) kn,i≤s.length→s.length=a.length→F i s.length s kn=k0 ((i:Int),s)) (hk:∀(i:Nat) (s:List α),i≤s.length→k0 ((i:Int),s)=K (s.take i)):Ê F1 0=K (a.filter p):=by
 rw[jx a (fun x=>!p x) kf kend h1 h1e]
 cases hf:a.findIdx? (fun x=>!p x) with
 |none =>
  dsimp only;rw[hend,List.filter_eq_self.2];intro x hx;have:=List.findIdx?_eq_none_iff.1 hf x hx;simpa using this
 |some z =>
  obtain⟨hz,hcz,hlt⟩:=List.findIdx?_eq_some_iff_getElem.1 hf;dsimp only;rw[hkf z hz];refine aaG p hF hE hk hz (fun x hx=>?_) (fun c hc=>?_)
  ·obtain⟨j,hj,rfl⟩:=cM.1 hx;rw[cT] at hj;rw[eM];have:=hlt j (by omega);simpa using this
  ·rw[cw hz] at hc;cases hc;simpa using hcz
end
def kX (m:ř) (w:Way):Bool:=iq (Ř (trP m w)) ((Ô (trP m w)).length+1)
def kQ (m:ř):List Way:=(ļ m.2).filter (kX m)
def pN (m:ř):Way×Bool:=match (ļ m.2).find? (kX m) with|some w=>(w,true)|none=>([],false)
section
variable {m:ř} {w:Way} {ρ:Type}
def ahD (h:MOk m) (hw:ő m.2 w):In (trP m w):=⟨(rM h hw).size,h.in_.num⟩
def EC (h:MOk m) (hw:ő m.2 w):gJ (trP m w)=some ((((Ô (trP m w)).length:Int)+1,Ř (trP m w)),Il (trP m w),0):=by
 rw[VD (ahD h hw),Sl,if_neg (by simp[(ŋ _).2 (rM h hw)])]
def pS (h:MOk m) (hw:ő m.2 w):Ū m w=some (kX m w):=by
 unfold Ū xb;rw[jZ h hw,À,EC h hw,À];have:=Sn (rM h hw).sys;simp only[Int.natCast_add,Int.cast_ofNat_Int] at this;rw[this]; rfl
def oZ {i:Nat} (hi:(ļ m.2)[i]?=some w):ő m.2 w:=wn.1 (cG hi)
def qk (h:MOk m):(ļ m.2).length≤150:=by rw[abj]; exact h.prod
def acT (h:MOk m):Eh m=some (kQ m):=by
 unfold Eh Qe;have hl:=RS h;have hl2:=qk h;have hm:((((m.1.1.1,m.1.1.2),m.1.2.1,m.1.2.2.1,m.1.2.2.2.1,m.1.2.2.2.2.1,m.1.2.2.2.2.2),m.2):ř)=m:=rfl;rw[adt h,À,IE (fun v y kn hv=>by unfold Br; rw[ċ (Ú (by simp; omega))]) (by simp; omega),List.nil_append,SL h,À]
 refine XD (a:=ļ m.2) (kX m) (K:=fun l=>some l) (k0:=adj [] fun l=>some l) (kf:=fun z6=>ifb (ieq z6 (-1:Int)) (some (ļ m.2)) (ck (z6+(1:Int)) fun n7=>Ê (fun(v15:Int×Int×List Way) kk19=>lT m.1.1.1 m.1.1.2 m.1.2.1 m.1.2.2.1 m.1.2.2.2.1 m.1.2.2.2.2.1 m.1.2.2.2.2.2 m.2 v15.1 v15.2.1 v15.2.2 (fun u16 u17 u18=>kk19 (u16,u17,u18)) (adj [] fun l=>some l)) (z6,n7,ļ m.2)))
  (F:=fun a b c kn=>lT m.1.1.1 m.1.1.2 m.1.2.1 m.1.2.2.1 m.1.2.2.2.1 m.1.2.2.2.2.1 m.1.2.2.2.2.2 m.2 a b c kn (adj [] fun l=>some l)) (kend:=some (ļ m.2)) (fun i x hi hx kn=>?_) (fun kn=>?_) rfl (fun z hz=>?_) (fun i j s x hs hij hj hx hxa kn=>?_) (fun i s kn hi hs=>?_) (fun i s hi=>XE _ _ hi)
 ·try dsimp only
  unfold ut;rw[Ò hi,Ŧ hi,ė hx,hm,pS h (oZ hx),À,Ì hi (by omega),ć];rfl
 ·try dsimp only
  unfold ut;rw[à]
 ·rw[Í (by simp[ieq]),Ì hz (by omega)]
 ·try dsimp only
  unfold lT;rw[Ò hj,show ò s=((s.length:Nat):Int) from rfl,Ŧ hj,ė hx,hm,pS h (wn.1 hxa),À];cases kX m x
  ·simp only[ft,dw,é,cQ,if_false];rw[Ì hj (by omega)]
  ·simp only[ft,dw,oy,if_true];rw[Ŧ (by omega),ė (cw (by omega)),Ì (show i<s.length by omega) (by omega),Ì hj (by omega),cP]
 ·try dsimp only
  unfold lT;rw[à]
def rH (h:MOk m):ú m=some (pN m):=by
 unfold ú uu;have hl2:=qk h;have hm:((((m.1.1.1,m.1.1.2),m.1.2.1,m.1.2.2.1,m.1.2.2.2.1,m.1.2.2.2.2.1,m.1.2.2.2.2.2),m.2):ř)=m:=rfl;rw[IR h,À];refine Eq.trans (mc (ļ m.2) (fun _ w=>if kX m w then some (w,true) else none) (fun z=>some (z.1,z.2)) (some ([],false)) (fun i x hi hx kn=>?_) (fun kn=>?_)) ?_
 ·try dsimp only
  unfold jK;rw[Ò hi,È hx,hm,pS h (oZ hx),À,Ì hi (by omega),ć]
  cases kX m x<;>rfl
 ·try dsimp only
  unfold jK;rw[à]
 ·rw[G6,pN]
  have key:∀l:List Way,l.findSome? (fun w=>if kX m w then some (w,true) else none)=(l.find? (kX m)).map fun w=>(w,true):=by
   intro l
   induction l with
   |nil=>rfl
   |cons x l ih =>
    rw[gh,fA]
    cases h:kX m x with
    |true=>rfl
    |false=>exact ih
  rw[key]
  cases(ļ m.2).find? (kX m)<;>rfl
def jP (m:ř):Bool:=(ļ m.2).any (kX m)
def pM (m:ř):(pN m).2=jP m:=by
 unfold pN jP
 cases h:(ļ m.2).find? (kX m) with
 |none =>
  symm
  rw[dz]
  exact fun x hx=>by simpa using(dU.1 h) x hx
 |some w =>
  symm
  rw[dc];exact⟨w,eF h,fB h⟩
def acU (m:ř):kQ m=[]↔jP m=false:=by
 unfold kQ jP;rw[List.filter_eq_nil_iff,List.any_eq_false]
def aay (h:(pN m).2=true):(pN m).1∈kQ m:=by
 unfold pN at h ⊢
 cases hf:(ļ m.2).find? (kX m) with
 |none=>rw[hf] at h; cases h
 |some w=>exact dL.2 ⟨eF hf,fB hf⟩
def agp (hs:In m.1) (hn:m.2.length≤1000):LJ m=some (if Ĺ m≠0 then([],Ĺ m) else(kQ m,0)):=by
 unfold LJ WL;rw[mC hs hn,À]
 by_cases hc:Ĺ m=0
 ·rw[Í (by simp[ine,hc]),if_neg (by simp[hc]),acT ((Ō m).1 hc)]; rfl
 ·rw[Ø (by simp[ine,hc]),if_pos hc]
def Le (m:ř):Way×Int:=if Ĺ m≠0 then([],Ĺ m) else if jP m then((pN m).1,0) else([],5)
def VE (hs:In m.1) (hn:m.2.length≤1000):yd m=some (Le m):=by
 unfold yd J7 Le;rw[mC hs hn,À]
 by_cases hc:Ĺ m=0
 ·rw[Í (by simp[ine,hc]),if_neg (by simp[hc]),rH ((Ō m).1 hc),À,pM]
  cases jP m<;>rfl
 ·rw[Ø (by simp[ine,hc]),if_pos hc]
def ahb (m:ř) (p:Cmp→Bool):ř:=((m.1.1,m.1.2.1,m.1.2.2.1,m.1.2.2.2.1,m.1.2.2.2.2.1.filter p,m.1.2.2.2.2.2),m.2)
def sv (m:ř) (ids:List Int):ř:=ahb m fun c=>ids.contains c.1
def Wo (hn:m.1.2.2.2.2.1.length≤1000) {ids:List Int} (hi:ids.length≤1000000):yU m ids=some (sv m ids):=by
 unfold yU P7;rw[ċ (Ú (by omega))]
 refine XD (a:=m.1.2.2.2.2.1) (fun c=>ids.contains c.1) (K:=fun l=>some ((m.1.1,m.1.2.1,m.1.2.2.1,m.1.2.2.2.1,l,m.1.2.2.2.2.2),m.2)) (k0:=adj zC fun l=>some ((m.1.1,m.1.2.1,m.1.2.2.1,m.1.2.2.2.1,l,m.1.2.2.2.2.2),m.2))
  (kf:=fun z4=>ifb (ieq z4 (-1:Int)) (some m) (ck (z4+(1:Int)) fun n5=>Ê (fun(v13:Int×Int×List Cmp) kk17=>lS ids v13.1 v13.2.1 v13.2.2 (fun u14 u15 u16=>kk17 (u14,u15,u16)) (adj zC fun l=>some ((m.1.1,m.1.2.1,m.1.2.2.1,m.1.2.2.2.1,l,m.1.2.2.2.2.2),m.2))) (z4,n5,m.1.2.2.2.2.1)))
  (F:=fun a b c kn=>lS ids a b c kn (adj zC fun l=>some ((m.1.1,m.1.2.1,m.1.2.2.1,m.1.2.2.2.1,l,m.1.2.2.2.2.2),m.2))) (kend:=some m) (fun i x hi' hx kn=>?_) (fun kn=>?_) rfl (fun z hz=>?_) (fun i j s x hs hij hj hx hxa kn=>?_) (fun i s kn hi hs=>?_) (fun i s hi=>XE _ _ hi)
 ·try dsimp only
  unfold ur;rw[Ò hi',Ŧ hi',ė hx,ń hi,À,Ì hi' (by omega),ć];rfl
 ·try dsimp only
  unfold ur;rw[à]
 ·rw[Í (by simp[ieq]),Ì hz (by omega)]
 ·try dsimp only
  unfold lS;rw[Ò hj,show ò s=((s.length:Nat):Int) from rfl,Ŧ hj,ė hx,ń hi,À];cases ids.contains x.1
  ·simp only[ft,dw,é,cQ,if_false];rw[Ì hj (by omega)]
  ·simp only[ft,dw,oy,if_true];rw[Ŧ (by omega),ė (cw (by omega)),Ì (show i<s.length by omega) (by omega),Ì hj (by omega),cP]
 ·try dsimp only
  unfold lS;rw[à]
end
section
variable {b:Ė}
def Iy (h:ż b) (g:ý) {f t u:Int} (h1:f≤t) (h2:t≤u):kM b g f u=kM b g f t+kM b g t u:=by
 obtain⟨n,rfl⟩:∃n:Nat,u=t+n:=⟨(u-t).toNat,by omega⟩;clear h2
 induction n with
 |zero=>simp[UK]
 |succ n ih =>
  have e:t+((n+1:Nat):Int)=(t+n)+1:=by omega
  rw[e,UJ h g (show f≤t+(n:Int) by omega),UJ h g (show t≤t+(n:Int) by omega),ih];omega
def BQ (h:ż b) {g:ý} (hg:g∈b.2.1) {f t:Int} (hf:0≤f):0≤kM b g f t:=(vl h hg hf).1
def gL (b:Ė) (id d:Int):Int:=match jn (Ô b) id d with|some j=>(j:Int)+1|none=>0
def qq (h:ż b) {i:Nat} {g:ý} (hg:b.2.1[i]?=some g) {k:Nat} {d:Int} (hk:(æ b g)[k]?=some d):gL b g.1 d=(off b i:Int)+k+1:=by
 unfold gL;rw[PW h hg hk];simp only;omega
structure tY (b:Ė) (p:Int→Int) (g:ý):Prop where
 hi:p (gL b g.1 g.2.1)≤p 0+(g.2.2.1+g.2.2.2.1.2)
 lo:p 0+(g.2.2.1+g.2.2.2.1.1)≤p (gL b g.1 g.2.1)
 down:∀d e,d∈æ b g→e∈æ b g→d≤e→p (gL b g.1 e)≤p (gL b g.1 d)
 loss:∀d e,d∈æ b g→e∈æ b g→d≤e→p (gL b g.1 d)≤p (gL b g.1 e)+kM b g d e
def D7 (h:ż b) {i:Nat} {g:ý} (hg:b.2.1[i]?=some g) {p:Int→Int}:(∀l∈Ŋ b g,p l.2.1≤p l.1+l.2.2)↔tY b p g:=by
 have hgm:=cG hg;obtain⟨tl,htl⟩:=U8 h hgm
 have h0:gL b g.1 g.2.1=(off b i:Int)+1:=by
  have:=qq h hg (k:=0) (d:=g.2.1) (by rw[htl]; rfl);rw[this];omega
 constructor
 ·intro hl;have e1:=hl _ ((Ĵ h hg).2 (.inl rfl));have e2:=hl _ ((Ĵ h hg).2 (.inr (.inl rfl)));simp only at e1 e2
  have step:∀(k:Nat) (d e:Int),(æ b g)[k]?=some d→(æ b g)[k+1]?=some e→p (gL b g.1 e)≤p (gL b g.1 d)∧p (gL b g.1 d)≤p (gL b g.1 e)+kM b g d e:=by
   intro k d e hd he;have a1:=hl _ ((Ĵ h hg).2 (.inr (.inr ⟨k,d,e,hd,he,.inl rfl⟩)));have a2:=hl _ ((Ĵ h hg).2 (.inr (.inr ⟨k,d,e,hd,he,.inr rfl⟩)));simp only at a1 a2;rw[qq h hg hd,qq h hg he]
   have e3:(off b i:Int)+((k+1:Nat):Int)+1=(off b i:Int)+k+2:=by omega
   rw[e3];exact⟨by omega,a2⟩
  have pair:∀(n k:Nat) (d e:Int),(æ b g)[k]?=some d→(æ b g)[k+n]?=some e→p (gL b g.1 e)≤p (gL b g.1 d)∧p (gL b g.1 d)≤p (gL b g.1 e)+kM b g d e:=by
   intro n
   induction n with
   |zero =>
    intro k d e hd he;rw[fu,hd] at he;cases he;rw[UK g (dJ _)];omega
   |succ n ih =>
    intro k d e hd he;have hlt:=(cB.1 he).1;have hm:(æ b g)[k+n]?=some ((æ b g)[k+n]'(by omega)):=cw (by omega);obtain⟨a1,a2⟩:=ih k d _ hd hm;obtain⟨a3,a4⟩:=step (k+n) _ e hm he
    have o1:d≤(æ b g)[k+n]'(by omega):=by
     obtain⟨hkl,hkd⟩:=cB.1 hd;rcases fS n with rfl|hn
     ·rw[←hkd]; exact Int.le_of_eq (by congr 1)
     ·have:=(df.1 (vy b g)) k (k+n) hkl (by omega) (by omega);rw[hkd] at this; omega
    have o2:(æ b g)[k+n]'(by omega)≤e:=by
     obtain⟨hel,hee⟩:=cB.1 he;have:=(df.1 (vy b g)) (k+n) (k+(n+1)) (by omega) hel (by omega);rw[hee] at this; omega
    have:=Iy h g o1 o2;omega
  have any:∀d e,d∈æ b g→e∈æ b g→d≤e→p (gL b g.1 e)≤p (gL b g.1 d)∧p (gL b g.1 d)≤p (gL b g.1 e)+kM b g d e:=by
   intro d e hd he hde;obtain⟨k,hk,rfl⟩:=cM.1 hd;obtain⟨m,hm,rfl⟩:=cM.1 he
   have hkm:k≤m:=by
    rcases cV m k with hlt|hge
    ·have:=(df.1 (vy b g)) m k hm hk hlt; omega
    ·exact hge
   exact pair (m-k) k _ _ (cw hk) (by rw[show k+(m-k)=m by omega]; exact cw hm)
  exact⟨by rw[h0]; omega,by rw[h0]; omega,fun d e hd he hde=>(any d e hd he hde).1,fun d e hd he hde=>(any d e hd he hde).2⟩
 ·intro hf l hl;rcases(Ĵ h hg).1 hl with rfl|rfl|⟨k,d,e,hd,he,rfl|rfl⟩
  ·have:=hf.hi; rw[h0] at this; simp only; omega
  ·have:=hf.lo; rw[h0] at this; simp only; omega
  ·have hde:d≤e:=by
    obtain⟨a1,a2⟩:=cB.1 hd;obtain⟨a3,a4⟩:=cB.1 he;have:=(df.1 (vy b g)) k (k+1) a1 a3 (by omega);rw[a2,a4] at this; omega
   have:=hf.down d e (cG hd) (cG he) hde;rw[qq h hg hd,qq h hg he] at this
   have e3:(off b i:Int)+((k+1:Nat):Int)+1=(off b i:Int)+k+2:=by omega
   rw[e3] at this;simp only;omega
  ·have hde:d≤e:=by
    obtain⟨a1,a2⟩:=cB.1 hd;obtain⟨a3,a4⟩:=cB.1 he;have:=(df.1 (vy b g)) k (k+1) a1 a3 (by omega);rw[a2,a4] at this; omega
   have:=hf.loss d e (cG hd) (cG he) hde;rw[qq h hg hd,qq h hg he] at this
   have e3:(off b i:Int)+((k+1:Nat):Int)+1=(off b i:Int)+k+2:=by omega
   rw[e3] at this;simp only;exact this
def abU (h:ż b) {p:Int→Int}:Pot (Ř b) p↔(∀g∈b.2.1,tY b p g)∧∀c∈b.2.2.2.2.1,p (cx b c)≤p (cy b c)+(wy b c).2∧p (cy b c)+(wy b c).1≤p (cx b c):=by
 constructor
 ·intro hp;refine⟨fun g hg=>?_,fun c hc=>?_⟩
  ·obtain⟨i,hi,rfl⟩:=cM.1 hg;exact(D7 h (cw hi)).1 fun l hl=>hp l.1 l.2.1 l.2.2 (oS.2 (.inl ⟨i,_,cw hi,hl⟩))
  ·have a1:=hp _ _ _ (oS.2 (.inr ⟨c,hc,.inl rfl⟩));have a2:=hp _ _ _ (oS.2 (.inr ⟨c,hc,.inr rfl⟩));omega
 ·rintro⟨hg,hc⟩ u v m hl;rcases oS.1 hl with⟨i,g,hig,hl⟩|⟨c,hcm,hl⟩
  ·exact(D7 h hig).2 (hg g (cG hig)) (u,v,m) hl
  ·obtain⟨a1,a2⟩:=hc c hcm;rcases hl with hl|hl
   ·obtain⟨rfl,rfl,rfl⟩:u=cy b c∧v=cx b c∧m=(wy b c).2:=by simpa using hl
    exact a1
   ·obtain⟨rfl,rfl,rfl⟩:u=cx b c∧v=cy b c∧m = -(wy b c).1:=by simpa using hl
    omega
end
def af5:List Int→Int
 |[]=>0
 |[a]=>a
 |a::b::t=>max a (af5 (b::t))
def TA:∀{l:List Int},l≠[]→(∀a∈l,a≤af5 l)∧af5 l∈l
 |[],h=>absurd rfl h
 |[a],_=>⟨fun x hx=>by rw[cI] at hx; rw[hx]; exact dJ _,by simp[af5]⟩
 |a::b::t,_=>by
  obtain⟨h1,h2⟩:=TA (l:=b::t) (by simp);have e:af5 (a::b::t)=max a (af5 (b::t)):=rfl;rw[e];constructor
  ·intro x hx;rcases cF.1 hx with rfl|hx
   ·omega
   ·have:=h1 x hx; omega
  ·rcases Int.le_total a (af5 (b::t)) with h|h
   ·rw[Int.max_eq_right h]; exact dk _ h2
   ·rw[Int.max_eq_left h]; exact List.mem_cons_self
section
variable {b:Ė}
def abT (b:Ė) (f:Int→Int→Int) (z:Int) (v:Int):Int:=if v=0 then z else match (Ô b)[(v-1).toNat]? with|some n=>f n.1 n.2|none=>0
def I9 (f:Int→Int→Int) (z:Int):abT b f z 0=z:=by unfold abT; rw[if_pos rfl]
def S6 (h:ż b) (f:Int→Int→Int) (z:Int) {g:ý} (hg:g∈b.2.1) {d:Int} (hd:d∈æ b g):abT b f z (gL b g.1 d)=f g.1 d:=by
 obtain⟨i,hi,rfl⟩:=List.mem_iff_getElem.1 hg;obtain⟨k,hk,rfl⟩:=List.mem_iff_getElem.1 hd;have hgi:=List.getElem?_eq_getElem hi;have hdk:=List.getElem?_eq_getElem hk;rw[qq h hgi hdk];unfold abT
 have e:((off b i:Int)+k+1-1).toNat=off b i+k:=by omega
 rw[if_neg (by omega),e,aeR hgi hdk]
def Vv (b:Ė) (l:List Int) (d:Int):Int:=match l with|[]=>0|x::_=>gL b x d
def Zx (l:List Int) (d:Int):atP (Ô b) l d=Vv b l d:=by
 unfold atP Vv gL
 cases l<;>rfl
def adn (c:Cmp):cx b c=Vv b (ü c.2.2.1 c.2.2.2.1) c.2.1:=Zx _ _
def adm (c:Cmp):cy b c=Vv b (ü c.2.2.2.1 c.2.2.1) c.2.1:=Zx _ _
def YX (h:ż b) {c:Cmp} (hc:c∈b.2.2.2.2.1) {x:Int} (hx:x∈ü c.2.2.1 c.2.2.2.1∨x∈ü c.2.2.2.1 c.2.2.1):∃g∈b.2.1,g.1=x∧c.2.1∈æ b g:=by
 have hx':(x∈c.2.2.1∧x∉c.2.2.2.1)∨(x∈c.2.2.2.1∧x∉c.2.2.1):=by
  rcases hx with hx|hx
  ·exact .inl (nr.1 hx)
  ·exact .inr (nr.1 hx)
 have hm:x∈c.2.2.1++c.2.2.2.1:=by rw[cE]; exact hx'.imp (·.1) (·.1)
 obtain⟨⟨g,hg,_⟩,_⟩:=h.pile hc hm;obtain⟨hgm,hid⟩:=iN hg;refine⟨g,hgm,hid,gK.2 (.inr (.inl ⟨c,hc,?_,rfl⟩))⟩;rw[hid];intro he;rw[gj,eX,eX] at he;rcases hx' with⟨a,e⟩|⟨a,e⟩
 ·exact e (he.1 a)
 ·exact e (he.2 a)
def fill (b:Ė) (p:Int→Int) (g:ý) (d:Int):Int:=af5 ((æ b g).map fun e=>if d≤e then p (gL b g.1 e) else p (gL b g.1 e)-kM b g e d)
def LG {p:Int→Int} {g:ý} (d:Int):(∀e∈æ b g,(if d≤e then p (gL b g.1 e) else p (gL b g.1 e)-kM b g e d)≤fill b p g d)∧∃e∈æ b g,fill b p g d=if d≤e then p (gL b g.1 e) else p (gL b g.1 e)-kM b g e d:=by
 have hne:((æ b g).map fun e=>if d≤e then p (gL b g.1 e) else p (gL b g.1 e)-kM b g e d)≠[]:=by
  intro h;have:=List.map_eq_nil_iff.1 h;have h2:=rI (b:=b) g;rw[this] at h2;cases h2
 obtain⟨h1,h2⟩:=TA hne;refine⟨fun e he=>h1 _ (di.2 ⟨e,he,rfl⟩),?_⟩;obtain⟨e,he,hx⟩:=di.1 h2;exact⟨e,he,hx.symm⟩
def Zd (h:ż b) {p:Int→Int} {g:ý} (hg:g∈b.2.1) (hf:tY b p g) {d:Int} (hd:d∈æ b g):fill b p g d=p (gL b g.1 d):=by
 obtain⟨h1,e,he,h2⟩:=LG (b:=b) (p:=p) (g:=g) d;have h3:=h1 d hd;rw[if_pos (dJ _)] at h3
 have h4:fill b p g d≤p (gL b g.1 d):=by
  rw[h2]
  split
  ·rename_i hde;exact hf.down d e hd he hde
  ·rename_i hde;have:=hf.loss e d he hd (by omega);omega
 omega
def U5 (h:ż b) {p:Int→Int} {g:ý} (hg:g∈b.2.1) (hf:tY b p g) {d e:Int} (h0:g.2.1≤d) (hde:d≤e):fill b p g e≤fill b p g d∧fill b p g d≤fill b p g e+kM b g d e:=by
 obtain⟨a1,x,hx,a2⟩:=LG (b:=b) (p:=p) (g:=g) d;obtain⟨b1,y,hy,b2⟩:=LG (b:=b) (p:=p) (g:=g) e;have hm:=(h.gaugeR hg).2.2.2.2.1;have hl:=BQ h hg (f:=d) (t:=e) (by omega);have dx:=h.day hg hx;have dy:=h.day hg hy;constructor
 ·have q:=a1 y hy;rw[b2]
  by_cases c1:e≤y
  ·rw[if_pos c1];rw[if_pos (by omega)] at q;exact q
  ·rw[if_neg c1]
   by_cases c2:d≤y
   ·rw[if_pos c2] at q;have:=BQ h hg (f:=y) (t:=e) dy.2.1;omega
   ·rw[if_neg c2] at q;have:=Iy h g (f:=y) (t:=d) (u:=e) (by omega) hde;omega
 ·have q:=b1 x hx;rw[a2]
  by_cases c1:d≤x
  ·rw[if_pos c1]
   by_cases c2:e≤x
   ·rw[if_pos c2] at q;omega
   ·rw[if_neg c2] at q;have:=Iy h g (f:=d) (t:=x) (u:=e) c1 (by omega);have:=BQ h hg (f:=d) (t:=x) (by omega);omega
  ·rw[if_neg c1];rw[if_neg (by omega)] at q;have:=Iy h g (f:=x) (t:=d) (u:=e) (by omega) hde;omega
end
section
variable {b:Ė} {c:Cmp}
def aaY {b':Ė} (h':ż b') {l:List Int} {day:Int} (f:Int→Int→Int) (z:Int) (hl:∀x∈l,∃g∈b'.2.1,g.1=x∧day∈æ b' g):abT b' f z (Vv b' l day)=match l with|[]=>z|x::_=>f x day:=by
 unfold Vv
 cases l with
 |nil=>exact I9 f z
 |cons x t =>
  obtain⟨g,hg,rfl,hd⟩:=hl x (by simp);exact S6 h' f z hg hd
end
section
variable {L:List Lk} {N:Nat}
def Wl.app {u v:Int} {vs:List Int} {d:Int} (h1:Wl L (fun x=>x=u) vs v d) {ws:List Int} {w e:Int} (h2:Wl L (fun x=>x=v) ws w e):∃xs,Wl L (fun x=>x=u) xs w (d+e):=by
 induction h2 with
 |nil h=>subst h; exact⟨vs,by rw[gu]; exact h1⟩
 |step hw hx ih =>
  obtain⟨xs,hi⟩:=ih;have:=Wl.step hi hx;rw[Int.add_assoc] at this;exact⟨_,this⟩
def dst (L:List Lk) (N:Nat) (s t:Int):Int:=gv (ml L N s) t
def ade (h:g9 L N) (ht:N0 L N) (ho:iq L N=true) {s t:Int} (hs:0≤s∧s<N) (hv:0≤t∧t<N):dst L N s t≤9007199254740992:=by
 have h2:=h.n60;obtain⟨p,hp⟩:=(Η h.links (by omega)).1 ho;obtain⟨vs,d,hw,hd⟩:=ht.from' s hs.1 hs.2;obtain⟨ws,e,hx,he⟩:=ht.to t hv.1 hv.2;obtain⟨xs,hy⟩:=Wl.app hw hx;have:=(mj h.links (by omega) hp hs).low t xs _ (YL.2 hy);unfold dst;omega
def agd (h:g9 L N) (ht:N0 L N) (ho:iq L N=true) {s t:Int} (hs:0≤s∧s<N) (hv:0≤t∧t<N):dst L N s t≠Ő:=by
 have:=ade h ht ho hs hv;unfold Ő;omega
def ahi (h:g9 L N) (ht:N0 L N) (ho:iq L N=true) {s:Int} (hs:0≤s∧s<N):Pot L (dst L N s):=by
 have h2:=h.n60;obtain⟨p,hp⟩:=(Η h.links (by omega)).1 ho;intro u v m hl;have hr:=h.inr _ hl;exact(mj h.links (by omega) hp hs).pot h.inr hl (agd h ht ho hs hr.1)
def adc (h:g9 L N) (ht:N0 L N) (ho:iq L N=true) {s t:Int} (hs:0≤s∧s<N) (hv:0≤t∧t<N) {p:Int→Int} (hp:Pot L p):p t-p s≤dst L N s t:=by
 have h2:=h.n60;obtain⟨vs,hw⟩:=(mj h.links (by omega) hp hs).att t hv.1 hv.2 (agd h ht ho hs hv);obtain⟨u,hu,hx⟩:=(YL.1 hw).pot hp;subst hu;exact hx
def adb (h:g9 L N) (ht:N0 L N) (ho:iq L N=true) {x y:Int} (hx:0≤x∧x<N) (hy:0≤y∧y<N) : -(dst L N x y)≤dst L N y x:=by
 have h2:=h.n60;obtain⟨p,hp⟩:=(Η h.links (by omega)).1 ho;have a1:=adc h ht ho hx hy hp;have a2:=adc h ht ho hy hx hp;omega
def dst_bd (h:g9 L N) (ht:N0 L N) (ho:iq L N=true) {s t:Int} (hs:0≤s∧s<N) (hv:0≤t∧t<N) : -9007199254740992≤dst L N s t∧dst L N s t≤9007199254740992:=by
 have a1:=ade h ht ho hs hv;have a2:=ade h ht ho hv hs;have a3:=adb h ht ho hv hs;omega
end
def abF (f:Int→Int→Int) (z:Int) (l:List Int) (d:Int):Int:=match l with|[]=>z|x::_=>f x d
def aaF (f:Int→Int→Int) (z:Int) (c:Cmp):Int:=abF f z (ü c.2.2.1 c.2.2.2.1) c.2.1-abF f z (ü c.2.2.2.1 c.2.2.1) c.2.1
structure ahE (b:Ė) (f:Int→Int→Int) (z:Int) (g:ý):Prop where
 hi:f g.1 g.2.1≤z+(g.2.2.1+g.2.2.2.1.2)
 lo:z+(g.2.2.1+g.2.2.2.1.1)≤f g.1 g.2.1
 down:∀d e,g.2.1≤d→d≤e→f g.1 e≤f g.1 d
 loss:∀d e,g.2.1≤d→d≤e→f g.1 d≤f g.1 e+kM b g d e
structure Hist (b:Ė) (f:Int→Int→Int) (z:Int):Prop where
 gauge:∀g∈b.2.1,ahE b f z g
 cmp:∀c∈b.2.2.2.2.1,(wy b c).1≤aaF f z c∧aaF f z c≤(wy b c).2
def ac5 {b:Ė} (h:ż b) {p:Int→Int} (hg:∀g∈b.2.1,tY b p g):∃f:Int→Int→Int,(∀g∈b.2.1,ahE b f (p 0) g)∧∀g∈b.2.1,∀d∈æ b g,f g.1 d=p (gL b g.1 d):=by
 let f:Int→Int→Int:=fun id d=>match ĉ b id with|some g=>fill b p g d|none=>0
 have hfv:∀g∈b.2.1,∀d,f g.1 d=fill b p g d:=fun g hgm d=>by
  show(match ĉ b g.1 with|some g=>fill b p g d|none=>0)=_;rw[vq h.ids hgm]
 refine⟨f,fun g hgm=>?_,fun g hgm d hd=>by rw[hfv g hgm]; exact Zd h hgm (hg g hgm) hd⟩;have gf:=hg g hgm
 have e0:f g.1 g.2.1=p (gL b g.1 g.2.1):=by rw[hfv g hgm]; exact Zd h hgm gf (rI g)
 refine⟨by rw[e0]; exact gf.hi,by rw[e0]; exact gf.lo,fun d e h0 hde=>?_,fun d e h0 hde=>?_⟩
 ·rw[hfv g hgm,hfv g hgm];exact(U5 h hgm gf h0 hde).1
 ·rw[hfv g hgm,hfv g hgm];exact(U5 h hgm gf h0 hde).2
def SO {b:Ė} {f:Int→Int→Int} {p:Int→Int} (hm:∀g∈b.2.1,∀d∈æ b g,f g.1 d=p (gL b g.1 d)) {l:List Int} {day:Int} (hl:∀x∈l,∃g∈b.2.1,g.1=x∧day∈æ b g):p (Vv b l day)=abF f (p 0) l day:=by
 cases l with
 |nil=>rfl
 |cons x t =>
  obtain⟨g,q1,rfl,q3⟩:=hl x (by simp);exact(hm g q1 day q3).symm
def adi {b:Ė} {f:Int→Int→Int} {p:Int→Int} (hm:∀g∈b.2.1,∀d∈æ b g,f g.1 d=p (gL b g.1 d)) {c:Cmp}
 (hl:∀x,x∈ü c.2.2.1 c.2.2.2.1∨x∈ü c.2.2.2.1 c.2.2.1→∃g∈b.2.1,g.1=x∧c.2.1∈æ b g):p (cx b c)-p (cy b c)=aaF f (p 0) c:=by
 unfold aaF;rw[adn,adm,SO hm (fun x hx=>hl x (.inl hx)),SO hm (fun x hx=>hl x (.inr hx))]
def Od {b:Ė} (h:ż b) (f:Int→Int→Int) (z:Int) {l:List Int} {day:Int} (hl:∀x∈l,∃g∈b.2.1,g.1=x∧day∈æ b g):abT b f z (Vv b l day)=abF f z l day:=by
 rw[aaY h f z hl];unfold abF
 cases l<;>rfl
def abS {b:Ė} (h:ż b) {f:Int→Int→Int} {z:Int} {c:Cmp} (hl:∀x,x∈ü c.2.2.1 c.2.2.2.1∨x∈ü c.2.2.2.1 c.2.2.1→∃g∈b.2.1,g.1=x∧c.2.1∈æ b g):abT b f z (cx b c)-abT b f z (cy b c)=aaF f z c:=by
 unfold aaF;rw[adn,adm,Od h f z (fun x hx=>hl x (.inl hx)),Od h f z (fun x hx=>hl x (.inr hx))]
def Z1 {b:Ė} (h:ż b) {f:Int→Int→Int} {z:Int} {g:ý} (hg:g∈b.2.1) (hh:ahE b f z g):tY b (abT b f z) g:=by
 have q:∀d∈æ b g,abT b f z (gL b g.1 d)=f g.1 d:=fun d hd=>S6 h f z hg hd;have e0:=q g.2.1 (rI g);refine⟨?_,?_,fun d e hd he hde=>?_,fun d e hd he hde=>?_⟩
 ·rw[e0,I9]; exact hh.hi
 ·rw[e0,I9]; exact hh.lo
 ·rw[q d hd,q e he]; exact hh.down d e (h.day hg hd).1 hde
 ·rw[q d hd,q e he]; exact hh.loss d e (h.day hg hd).1 hde
section
variable {b:Ė} {c:Cmp}
def aeK (h:ż b) {p:Int→Int} (hp:Pot (Ř b) p):∃f,Hist b f (p 0)∧∀g∈b.2.1,∀d∈æ b g,f g.1 d=p (gL b g.1 d):=by
 obtain⟨hg,hc⟩:=(abU h).1 hp;obtain⟨f,hf,hm⟩:=ac5 h hg;refine⟨f,⟨hf,fun c hcm=>?_⟩,hm⟩;have:=adi hm (c:=c) (fun x hx=>YX h hcm hx);have:=hc c hcm;omega
def afb (h:ż b) {f:Int→Int→Int} {z:Int} (hh:Hist b f z):Pot (Ř b) (abT b f z):=by
 refine(abU h).2 ⟨fun g hg=>Z1 h hg (hh.gauge g hg),fun c hc=>?_⟩;have:=abS (f:=f) (z:=z) h (c:=c) (fun x hx=>YX h hc hx);have:=hh.cmp c hc;omega
def Ts (h:ż b):iq (Ř b) ((Ô b).length+1)=true↔∃f z,Hist b f z:=by
 have:=h.sys.n60;rw[Η h.sys.links (by omega)];constructor
 ·rintro⟨p,hp⟩;obtain⟨f,hf,_⟩:=aeK h hp;exact⟨f,_,hf⟩
 ·rintro⟨f,z,hh⟩;exact⟨_,afb h hh⟩
end
def afi {m:ř} (h:ż m.1) (p:Cmp→Bool):(ahb m p).1=less m.1 ((m.1.2.2.2.2.1.filter fun c=>!p c).map fun c=>c.1):=by
 unfold ahb less;dsimp only;congr 5;refine List.filter_congr fun c hc=>?_;rw[Bool.eq_iff_iff,Bool.not_eq_true',Bool.eq_false_iff,ne_eq,List.contains_iff_mem,List.mem_map];constructor
 ·rintro hp ⟨c',hc',e⟩;obtain⟨h1,h2⟩:=dL.1 hc'
  have:c'=c:=by
   obtain⟨i,hi,rfl⟩:=cM.1 h1;obtain⟨j,hj,rfl⟩:=cM.1 hc;have hd:=df.1 h.distinct;rcases Nat.lt_trichotomy i j with hij|hij|hij
   ·exact absurd e (hd i j hi hj hij)
   ·subst hij; rfl
   ·exact absurd e.symm (hd j i hj hi hij)
  rw[this,hp] at h2;cases h2
 ·intro hn
  cases hp:p c with
  |true=>rfl
  |false=>exact absurd ⟨c,dL.2 ⟨hc,by simp[hp]⟩,rfl⟩ hn
def MOk.few {m:ř} (h:MOk m) (p:Cmp→Bool):MOk (ahb m p):=by
 refine⟨?_,h.n4,h.mixE,h.prod⟩;rw[afi h.good];exact h.good.less _
section
variable {m:ř} {ρ:Type}
def NS (h:MOk m) (ids:List Int):ú (sv m ids)=some (pN (sv m ids)):=rH (h.few _)
def xX (b:Ė) (id d:Int):Int:=if !Ph d then 1 else if (ĉ b id).isNone then 5 else 0
def Rs (hn:m.1.2.1.length≤1000) (id d:Int):tO m id d=some (xX m.1 id d):=by
 unfold tO JJ xX
 by_cases h:Ph d=true
 ·have h':=h;simp only[Ph,inP,cA,decide_eq_true_eq] at h';rw[h,Í (by simp[ilt]; omega),Í (by simp[igt]; omega),if_neg (by simp)];refine dS (ĵ m.1.2.1 (fun g=>g.1==id) (fun z=>ifb (!(ige z (0:Int))) (some 5) (some 0)) (some 0) (some 5) (fun j=>Í (by simp[ige]) _ _) (fun i a hi ha kn=>?_) (fun kn=>?_)) ?_
  ·try dsimp only
   unfold qG;rw[Ò hi,È ha,Ì hi (by omega),ć]
  ·try dsimp only
   unfold qG;rw[à]
  ·unfold ĉ
   cases hf:m.1.2.1.find? (fun g=>g.1==id) with
   |none =>
    rw[if_neg]
    ·rfl
    rw[dc];rintro⟨g,hg,e⟩;exact absurd e (by simpa using(dU.1 hf) g hg)
   |some g =>
    rw[if_pos]
    ·rfl
    have hp:=fB hf;exact dc.2 ⟨g,eF hf,hp⟩
 ·have h':=h;simp only[Ph,inP,cA,decide_eq_true_eq,not_and,Int.not_le] at h';rw[if_pos (by simp[h])];rw[ć,ć];simp only[ilt,igt,decide_eq_true_eq]
  split
  ·rfl
  ·rw[if_pos (by have:=h' (by omega); omega)]
def L9 (label:Int) (c:Cmp):Bool:=(ü c.2.2.1 c.2.2.2.1).contains label||(ü c.2.2.2.1 c.2.2.1).contains label
def Gj (m:ř) (label:Int):Bool×Int:=if Ĺ m≠0 then(false,Ĺ m) else if xX m.1 label 0≠0 then(false,xX m.1 label 0) else(!jP (ahb m (L9 label)),0)
def VB (hs:In m.1) (hn:m.2.length≤1000) (label:Int):oB m label=some (Gj m label):=by
 unfold oB uw Gj;rw[mC hs hn,À]
 by_cases hc:Ĺ m=0
 ·have h:=(Ō m).1 hc;have hC:=h.good.nC;rw[Í (by simp[ine,hc]),if_neg (by simp[hc]),Rs hs.size.gauges,À]
  by_cases hk:xX m.1 label 0=0
  ·rw[Í (by simp[ine,hk]),if_neg (by simp[hk]),ċ (Ú (by omega))]
   have hcan:∀c∈m.1.2.2.2.2.1,oW c.2.2.1 c.2.2.2.1=some (ü c.2.2.1 c.2.2.2.1,ü c.2.2.2.1 c.2.2.1,0)∧(ü c.2.2.1 c.2.2.2.1).length≤1000000∧(ü c.2.2.2.1 c.2.2.1).length≤1000000:=fun c hc=>by
    obtain⟨p1,p2⟩:=h.good.size.piles c hc;have hnum:=(ks c).1 (h.good.nums hc);have l1:=DY c.2.2.1 c.2.2.2.1;have l2:=DY c.2.2.2.1 c.2.2.1;refine⟨?_,by omega,by omega⟩;rw[aef (by omega) (by omega),X4,hnum.2.2.2.2.2.1,hnum.2.2.2.2.2.2]; rfl
   have hK:∀l,l=m.1.2.2.2.2.1.filter (L9 label)→Ã (ú ((m.1.1,m.1.2.1,m.1.2.2.1,m.1.2.2.2.1,l,m.1.2.2.2.2.2),m.2)) (fun r24=>some ((!r24.2),(0:Int)))=some (!jP (ahb m (L9 label)),0):=fun l hl=>by
    subst hl;have:=rH (h.few (L9 label));unfold ahb at this ⊢;rw[this,À,pM]
   refine dS (XD (a:=m.1.2.2.2.2.1) (L9 label) (K:=fun l=>Ã (ú ((m.1.1,m.1.2.1,m.1.2.2.1,m.1.2.2.2.1,l,m.1.2.2.2.2.2),m.2)) fun r24=>some ((!r24.2),(0:Int))) (k0:=adj zC fun l=>Ã (ú ((m.1.1,m.1.2.1,m.1.2.2.1,m.1.2.2.2.1,l,m.1.2.2.2.2.2),m.2)) fun r24=>some ((!r24.2),(0:Int)))
    (kf:=fun z9=>ifb (ieq z9 (-1:Int)) (Ã (ú m) fun r10=>some ((!r10.2),(0:Int))) (ck (z9+(1:Int)) fun n11=>Ê (fun(v25:Int×Int×List Cmp) kk29=>Β label v25.1 v25.2.1 v25.2.2 (fun u26 u27 u28=>kk29 (u26,u27,u28)) (adj zC fun l=>Ã (ú ((m.1.1,m.1.2.1,m.1.2.2.1,m.1.2.2.2.1,l,m.1.2.2.2.2.2),m.2)) fun r24=>some ((!r24.2),(0:Int)))) (z9,n11,m.1.2.2.2.2.1)))
    (F:=fun a b c kn=>Β label a b c kn (adj zC fun l=>Ã (ú ((m.1.1,m.1.2.1,m.1.2.2.1,m.1.2.2.2.1,l,m.1.2.2.2.2.2),m.2)) fun r24=>some ((!r24.2),(0:Int)))) (kend:=Ã (ú m) fun r10=>some ((!r10.2),(0:Int))) (fun i x hi hx kn=>?_) (fun kn=>?_) rfl (fun z hz=>?_) (fun i j s x hs hij hj hx hxa kn=>?_) (fun i s kn hi hs=>?_) (fun i s hi=>XE _ _ hi)) (hK _ rfl)
   ·try dsimp only
    unfold jL;obtain⟨c1,c2,c3⟩:=hcan x (List.mem_of_getElem? hx);rw[Ò hi,Ŧ hi,ė hx,c1,À,ń c2,À,ń c3,À];unfold L9
    cases(ü x.2.2.1 x.2.2.2.1).contains label<;>cases(ü x.2.2.2.1 x.2.2.1).contains label<;>simp only[oy,é,dw,ft,Bool.or_true,Bool.or_false,if_true,cQ,if_false]<;>first|rfl|rw[Ì hi (by omega)]
   ·try dsimp only
    unfold jL;rw[à]
   ·rw[Í (by simp[ieq]),Ì hz (by omega)]
   ·try dsimp only
    unfold Β;obtain⟨c1,c2,c3⟩:=hcan x hxa;have hx2:s[i]?=some s[i]:=List.getElem?_eq_getElem (by omega);rw[Ò hj,show ò s=((s.length:Nat):Int) from rfl,Ŧ hj,ė hx,c1,À,ń c2,À,ń c3,À];unfold L9
    cases(ü x.2.2.1 x.2.2.2.1).contains label<;>cases(ü x.2.2.2.1 x.2.2.1).contains label<;>simp only[oy,é,dw,ft,Bool.or_true,Bool.or_false,if_true,cQ,if_false]<;>first|rw[Ì hj (by omega)]|rw[Ŧ (by omega),ė hx2,Ì (show i<s.length by omega) (by omega),Ì hj (by omega),cP]
   ·try dsimp only
    unfold Β;rw[à]
  ·rw[Ø (by simp[ine,hk]),if_pos hk]
 ·rw[Ø (by simp[ine,hc]),if_pos hc]
def Xu (m:ř):List Int:=m.1.2.2.2.2.1.map fun c=>c.1
def adr (m:ř):Nat→List Int→List Int
 |0,l=>l
 |i+1,l=>adr m i (if jP (sv m (l.take i++l.drop (i+1))) then l else l.take i++l.drop (i+1))
def ahH (m:ř):List Int×Int:=if Ĺ m≠0 then([],Ĺ m) else if jP m then([],5) else(adr m (Xu m).length (Xu m),0)
def ahG (hs:In m.1) (hn:m.2.length≤1000):IF m=some (ahH m):=by
 unfold IF Qq ahH;rw[mC hs hn,À]
 by_cases hc:Ĺ m=0
 ·have h:=(Ō m).1 hc;have hC:=h.good.nC;have hm:((((m.1.1.1,m.1.1.2),m.1.2.1,m.1.2.2.1,m.1.2.2.2.1,m.1.2.2.2.2.1,m.1.2.2.2.2.2),m.2):ř)=m:=rfl;rw[Í (by simp[ine,hc]),if_neg (by simp[hc]),rH h,À,pM]
  cases jP m with
  |true=>rfl
  |false =>
   simp only[é,cQ,if_false]
   have hl:(Xu m).length=m.1.2.2.2.2.1.length:=by unfold Xu; simp
   refine dS (yM m.1.2.2.2.2.1 (fun c=>c.1) (fun z5=>ck ((Ù z5)-(1:Int)) fun n6=>Ê (fun(v14:List Int×Int) kk17=>pn m.1.1.1 m.1.1.2 m.1.2.1 m.1.2.2.1 m.1.2.2.2.1 m.1.2.2.2.2.1 m.1.2.2.2.2.2 m.2 v14.1 v14.2 (fun u15 u16=>kk17 (u15,u16)) (fun z13=>some (z13,(0:Int)))) (z5,n6)) (fun i a hi ha v kn hv=>?_) (fun v kn=>?_)) ?_
   ·try dsimp only
    unfold uA;rw[Ò hi,È ha,ċ (Ú (by simp; omega)),Ì hi (by omega)]
   ·try dsimp only
    unfold uA;rw[à]
   ·show(ck ((Ù (Xu m))-(1:Int)) fun n6=>Ê _ (Xu m,n6))=_;rw[Ï,Ó (by omega) (by omega)];refine Ę (fun x:List Int×Int=>∃i:Nat,x.2=(i:Int)-1∧i≤x.1.length∧x.1.length≤40∧adr m i x.1=adr m (Xu m).length (Xu m)) (fun x=>(x.2+1).toNat) ?_ ⟨_,rfl,Nat.le_refl _,by dsimp only; omega,rfl⟩;rintro⟨l,x2⟩ ⟨i,h1,hil,hl40,hco⟩;simp only at h1 hil hl40 hco;subst h1
    cases i with
    |zero =>
     refine .inl fun kn=>?_
     try dsimp only
     unfold pn;rw[Í (by simp[ige]),←hco]; rfl
    |succ i =>
     have e0:((i+1:Nat):Int)-1=i:=by omega
     have hlen:(l.take i++l.drop (i+1)).length=l.length-1:=by simp; omega
     rw[adr] at hco;refine .inr ⟨(if jP (sv m (l.take i++l.drop (i+1))) then l else l.take i++l.drop (i+1),(i:Int)-1),⟨i,rfl,?_,?_,hco⟩,by simp only[e0]; omega,fun kn=>?_⟩
     ·dsimp only; split<;>omega
     ·dsimp only; split<;>omega
     ·try dsimp only
      unfold pn;rw[e0,Ø (by simp[ige]),ċ (by simp[ile,ò]; omega),Ó (by omega) (by omega),ċ (by simp[ile,ò]; omega),Int.toNat_natCast,show Int.toNat ((i:Int)+1)=i+1 by omega,Mk (by simp; omega) (by simp; omega),À,hm,Wo (by omega) (by omega),À,NS h,À,pM,ć,Ó (by omega) (by omega),Ó (by omega) (by omega)]
      cases jP (sv m (l.take i++l.drop (i+1)))<;>rfl
 ·rw[Ø (by simp[ine,hc]),if_pos hc]
end
def Ċ:List Int→Nat→List Int
 |[],_=>[]
 |x::l,s=>if s % 2=1 then x::Ċ l (s / 2) else Ċ l (s / 2)
def LV:∀{l:List Int} {s i:Nat} {x:Int},l[i]?=some x→Ċ (l.take (i+1)) s=Ċ (l.take i) s++if s / 2 ^ i % 2=1 then[x] else[]
 |[],_,_,_,h=>by simp at h
 |y::l,s,0,x,h=>by
  simp at h; subst h;simp[Ċ]
 |y::l,s,i+1,x,h=>by
  simp only[fj] at h;have:=LV (s:=s / 2) h;simp only[gi,Ċ,this,Nat.pow_succ',←Nat.div_div_eq_div_mul]
  split<;>rfl
def oY:∀(l:List Int) (s:Nat),(Ċ l s).length≤l.length
 |[],_=>cz _
 |x::l,s=>by
  have:=oY l (s / 2);unfold Ċ
  split<;>simp only[cO]<;>omega
def bit_i {s i:Nat} (hs:s<9223372036854775808) (hi:i≤60):ieq (andI .i64 (gO .i64 (s:Int) (i:Int)) (1:Int)) (1:Int)=decide (s / 2 ^ i % 2=1):=by
 have h1:gO .i64 (s:Int) (i:Int)=((s / 2 ^ i:Nat):Int):=by
  unfold gO;have:IntKind.i64.bits=64:=rfl;rw[this,Int.toNat_natCast,Nat.min_eq_left (by omega),Int.fdiv_eq_ediv_of_nonneg _ (Int.le_of_lt (Int.pow_pos (by decide)))];push_cast; rfl
 rw[h1];unfold andI aek
 have hb:(BitVec.ofInt 64 ((s / 2 ^ i:Nat):Int) &&& BitVec.ofInt 64 1).toNat=s / 2 ^ i % 2:=by
  rw[BitVec.toNat_and,f7,show BitVec.ofInt 64 1=1#64 from rfl,BitVec.toNat_ofNat];rw[show(1#64).toNat=1 from rfl,Nat.and_one_is_mod,Nat.mod_mod_of_dvd _ (by decide)]
 show ieq (IntKind.i64.wrap ((BitVec.ofInt 64 ((s / 2 ^ i:Nat):Int) &&& BitVec.ofInt 64 1).toNat:Int)) 1=_;have hq:s / 2 ^ i % 2<2:=Nat.mod_lt _ (by decide);rw[hb];generalize s / 2 ^ i % 2=q at hq;rw[abe (by omega)];unfold ieq;rw[Bool.eq_iff_iff,beq_iff_eq,decide_eq_true_eq];omega
def agz (s x:Nat):Bool:=s &&& x==s
def sub_i {s x:Nat} (hs:s<9223372036854775808) (hx:x<9223372036854775808):ieq (Gi .i64 (s:Int) (x:Int)) (0:Int)=agz s x:=by
 unfold Gi aek;show ieq (IntKind.i64.wrap ((BitVec.ofInt 64 (s:Int) &&& ~~~ BitVec.ofInt 64 (x:Int)).toNat:Int)) 0=_
 have h1:(BitVec.ofInt 64 (s:Int) &&& ~~~ BitVec.ofInt 64 (x:Int)).toNat<9223372036854775808:=by
  rw[BitVec.toNat_and];refine Nat.lt_of_le_of_lt Nat.and_le_left ?_;rw[f7,BitVec.toNat_ofNat,Nat.mod_eq_of_lt (by omega)]; exact hs
 rw[abe h1];unfold ieq agz;rw[Bool.eq_iff_iff,beq_iff_eq,beq_iff_eq]
 have h2:(((BitVec.ofInt 64 (s:Int) &&& ~~~ BitVec.ofInt 64 (x:Int)).toNat:Nat):Int)=0↔∀i,i<64→s.testBit i=true→x.testBit i=true:=by
  rw[Int.natCast_eq_zero,←BitVec.toNat_zero (w:=64),BitVec.toNat_inj];constructor
  ·intro h i hi hsi;have:=congrArg (fun b:BitVec 64=>b.getLsbD i) h;simp only[BitVec.getLsbD_and,BitVec.getLsbD_not,f7,BitVec.getLsbD_ofNat,BitVec.getLsbD_zero,hi,decide_true,dY,hsi] at this;simpa using this
  ·intro h;apply BitVec.eq_of_getLsbD_eq;intro i hi;simp only[BitVec.getLsbD_and,BitVec.getLsbD_not,f7,BitVec.getLsbD_ofNat,BitVec.getLsbD_zero,hi,decide_true,dY]
   cases hsi:s.testBit i with
   |false=>simp
   |true=>rw[h i hi hsi]; simp
 rw[h2];constructor
 ·intro h;refine Nat.eq_of_testBit_eq fun i=>?_;rw[Nat.testBit_and]
  cases hsi:s.testBit i with
  |false=>rfl
  |true =>
   rcases cV i 64 with hi|hi
   ·rw[h i hi hsi]; rfl
   ·have:s<2 ^ i:=cS hs (cR (by decide) (Nat.pow_le_pow_right (by decide) hi));rw[Nat.testBit_lt_two_pow this] at hsi; cases hsi
 ·intro h i _ hsi;rw[←h,Nat.testBit_and,cA] at hsi;exact hsi.2
def aa6:List Int→List Int→Int
 |[],[]=>0
 |[],_=>-1
 |_,[]=>1
 |x::l,y::m=>if x<y then -1 else if y<x then 1 else aa6 l m
def Hd (m:ř) (ids:List Int) (st:List Int×Nat×List Nat) (s:Nat):List Int×Nat×List Nat :=
 if st.1.length<(Ċ ids s).length∨((Ċ ids s).length=st.1.length∧0≤aa6 (Ċ ids s) st.1) then st else
 if st.2.2.any (agz s) then st else if jP (sv m (Ċ ids s)) then(st.1,st.2.1,st.2.2++[s]) else(Ċ ids s,s,st.2.2)
def He (m:ř) (ids:List Int) (n:Nat):List Int×Nat×List Nat:=(List.range n).foldl (Hd m ids) (ids,2 ^ ids.length-1,[])
def ad9 (m:ř) (ids:List Int):List Int×Int :=
 if Ĺ m≠0 then([],Ĺ m) else if 8<ids.length then([],2) else if !ids.all (fun i=>(Xu m).contains i) then([],5) else if ¬ids.Pairwise (·<·) then([],6) else
 if jP (sv m (Ċ ids (2 ^ ids.length-1))) then([],5) else(Ċ ids (He m ids (2 ^ ids.length-1)).2.1,0)
section
variable {m:ř} {ρ:Type}
def Es {l:List Int} (hl:l.length≤60) {s:Nat} (hs:s<9223372036854775808):ik l (s:Int)=some (Ċ l s):=by
 unfold ik Fe;refine ĥ l (fun i=>Ċ (l.take i) s) _ rfl (fun i x hi hx kn=>?_) (fun kn=>?_)
 ·try dsimp only
  unfold ot;have hcl:=oY (l.take i) s
  have:(l.take i).length=i:=by rw[cT]; omega
  rw[Ò hi,È hx,ċ (by simp[ile]),bit_i hs (by omega),ć,LV hx]
  by_cases h:s / 2 ^ i % 2=1
  ·rw[if_pos (by simpa using h),if_pos h,ċ (Ú (by simp; omega)),Ì hi (by omega)]
  ·rw[if_neg (by simpa using h),if_neg h,Ì hi (by omega),cW]
 ·try dsimp only
  unfold ot;rw[à,List.take_length]
def aeC (hn:m.1.2.2.2.2.1.length≤1000) {ids:List Int} (hi:ids.length≤1000) (K:Int→Option ρ) (Z:Option ρ):Ê (fun(v:Int) kk=>κ ids (Ù ids) m.1.2.2.2.2.1 v (fun u=>kk u) K (fun _=>Z)) 0=if ids.all (fun i=>(Xu m).contains i) then Z else K 5:=by
 have:=ĵ ids (fun i=>!(Xu m).contains i) (fun _=>K 5) (K 5) Z (f:=fun v kk=>κ ids (Ù ids) m.1.2.2.2.2.1 v (fun u=>kk u) K (fun _=>Z)) (fun _=>rfl) (fun i x hi' hx kn=>?_) (fun kn=>?_)
 ·rw[this,gy]
  cases ids.any (fun i=>!(Xu m).contains i)<;>rfl
 ·try dsimp only
  unfold κ;rw[Ò hi',È hx];refine Eq.trans (ĵ m.1.2.2.2.2.1 (fun c=>c.1==x) (fun z5=>ifb (!(ige z5 (0:Int))) (K (5:Int)) (ck ((i:Int)+(1:Int)) fun n6=>kn n6)) (kn ((i:Int)+1)) (K 5) (fun j=>by rw[Í (by simp[ige]),Ì hi' (by omega)]) (fun j c hj hc kn'=>?_) (fun kn'=>?_)) ?_
  ·try dsimp only
   unfold kD;rw[Ò hj,È hc,Ì hj (by omega),ć]
  ·try dsimp only
   unfold kD;rw[à]
  ·have:(Xu m).contains x=m.1.2.2.2.2.1.any fun c=>c.1==x:=by
    unfold Xu;rw[Bool.eq_iff_iff,List.contains_iff_mem,List.mem_map,List.any_eq_true];simp
   rw[this]
   cases m.1.2.2.2.2.1.any (fun c=>c.1==x)<;>rfl
 ·try dsimp only
  unfold κ;rw[à]
def aeB {l:List Int} (hl:l.length≤1000) (k0:Int→Option ρ) (k1:Unit→Option ρ):Ê (fun(v:Int) kk=>iG l v (fun u=>kk u) k0 k1) 1=if l.Pairwise (·<·) then k1 () else k0 6:=by
 refine YR (fun i a c ha hc kn=>?_) (fun n hn kn=>?_)
 ·have hi:=(List.getElem?_eq_some_iff.1 hc).1;unfold iG
  have e:((i:Int)+1)=((i+1:Nat):Int):=by omega
  rw[e,Ò hi,È hc,Ó (by omega) (by omega),←e,Int.add_sub_cancel,È ha,ć,Ó (by omega) (by omega)];simp
 ·unfold iG;rw[Í (by simp[ilt,Ï]; omega)]
def Em (h:MOk m) (ids:List Int) {w:Way} (hw:ő m.2 w):Ū (sv m ids) w=some (kX (sv m ids) w):=pS (h.few _) hw
def aeA (h:MOk m) {ids:List Int} (hi:ids.length≤60) {s:Nat} (hs:s<9223372036854775808) (X Z:Option ρ):Ê (fun(v:Int) kk=>iF (ļ m.2) (Ù (ļ m.2)) m.1.1.1 m.1.1.2 m.1.2.1 m.1.2.2.1 m.1.2.2.2.1 m.1.2.2.2.2.1 m.1.2.2.2.2.2 m.2 ids (s:Int) v (fun u=>kk u) (fun z=>ifb z.2 X Z) (fun _=>Z)) 0=if jP (sv m (Ċ ids s)) then X else Z:=by
 have hm:((((m.1.1.1,m.1.1.2),m.1.2.1,m.1.2.2.1,m.1.2.2.2.1,m.1.2.2.2.2.1,m.1.2.2.2.2.2),m.2):ř)=m:=rfl;have hl2:=qk h;have hcl:=oY ids s;refine ĵ (ļ m.2) (kX (sv m (Ċ ids s))) (fun _=>X) X Z (fun _=>rfl) (fun i x hi' hx kn=>?_) (fun kn=>?_)
 ·try dsimp only
  unfold iF;rw[Ò hi',È hx,Es hi hs,À,hm,Wo h.good.size.compares (by omega),À,Em h _ (oZ hx),À,Ì hi' (by omega),ć,Bool.not_not];rfl
 ·try dsimp only
  unfold iF;rw[à]
def aex (h:MOk m) {ids:List Int} (hi:ids.length≤60) {s:Nat} (hs:s<9223372036854775808) {op:List Int} (ho:op.length≤1000) (k0 k1:List Int→Option ρ):Ê (fun(v:Int×List Int) kk=>œ (s:Int) (ļ m.2) (Ù (ļ m.2)) ids m.1.1.1 m.1.1.2 m.1.2.1 m.1.2.2.1 m.1.2.2.2.1 m.1.2.2.2.2.1 m.1.2.2.2.2.2 m.2 v.1 v.2 (fun a b=>kk (a,b)) k0 k1) ((0:Int),op)=if jP (sv m (Ċ ids s)) then k0 (op++[(s:Int)]) else k1 op:=by
 have hm:((((m.1.1.1,m.1.1.2),m.1.2.1,m.1.2.2.1,m.1.2.2.2.1,m.1.2.2.2.2.1,m.1.2.2.2.2.2),m.2):ř)=m:=rfl;have hl2:=qk h;have hcl:=oY ids s;refine La (ļ m.2) (fun _=>op) _ (fun i=>∀w∈(ļ m.2).take i,kX (sv m (Ċ ids s)) w=false) rfl (fun w hw=>by simp at hw) (fun i x hi' hx hp kn=>?_) (fun hp kn=>?_)
 ·try dsimp only
  unfold œ;rw[Ò hi',È hx,Es hi hs,À,hm,Wo h.good.size.compares (by omega),À,Em h _ (oZ hx),À,Ì hi' (by omega),ċ (Ú (by simp; omega)),ć,Bool.not_not]
  cases hx2:kX (sv m (Ċ ids s)) x with
  |true =>
   refine .inl ?_;have:jP (sv m (Ċ ids s))=true:=dc.2 ⟨x,cG hx,hx2⟩;rw[this]; rfl
  |false =>
   refine .inr ⟨fun w hw=>?_,rfl⟩;rw[take_succ hx] at hw;rcases cE.1 hw with hw|hw
   ·exact hp w hw
   ·rw[cI.1 hw]; exact hx2
 ·rw[fp] at hp
  try dsimp only
  unfold œ
  have:jP (sv m (Ċ ids s))=false:=dz.2 fun w hw=>by rw[show kX (sv m (Ċ ids s)) w=false from hp w hw]; simp
  rw[à,this]; rfl
def aey {s:Nat} (hs:s<9223372036854775808) {op:List Nat} (ho:op.length≤1000) (hop:∀x∈op,x<9223372036854775808) (X Z:Option ρ):Ê (fun(v:Int) kk=>Ŕ (s:Int) (Ù (op.map fun(x:Nat)=>(x:Int))) (op.map fun(x:Nat)=>(x:Int)) v (fun u=>kk u) (fun _=>X) (fun _=>Z)) 0=if op.any (agz s) then X else Z:=by
 refine ĵ op (agz s) (fun _=>X) X Z (fun _=>rfl) (fun i x hi hx kn=>?_) (fun kn=>?_)
 ·try dsimp only
  unfold Ŕ
  have hx':(op.map fun(x:Nat)=>(x:Int))[i]?=some (x:Int):=by rw[eh,hx]; rfl
  have hi':i<(op.map fun(x:Nat)=>(x:Int)).length:=by simpa using hi
  rw[Ò hi',Ŧ hi',ė hx',sub_i hs (hop x (cG hx)),Ì hi (by omega),ć]
 ·try dsimp only
  unfold Ŕ;rw[Ï,Í (by simp[ilt])]
def agZ {l m:List Int} (h:l.length=m.length) (hp:∀(i:Nat) (x y:Int),l[i]?=some x→m[i]?=some y→x=y):aa6 l m=0:=by
 induction l generalizing m with
 |nil=>cases m with|nil=>rfl|cons _ _=>cases h
 |cons x l ih =>
  cases m with
  |nil=>cases h
  |cons y m =>
   have e:=hp 0 x y rfl rfl;subst e;rw[aa6,if_neg (by omega),if_neg (by omega)];exact ih (by simpa using h) fun i a b ha hb=>hp (i+1) a b ha hb
def lex_at {l m:List Int} {i:Nat} {x y:Int} (hx:l[i]?=some x) (hy:m[i]?=some y) (hp:∀(j:Nat) (a b:Int),j<i→l[j]?=some a→m[j]?=some b→a=b) (hne:x≠y):aa6 l m=if x<y then -1 else 1:=by
 induction l generalizing m i with
 |nil=>simp at hx
 |cons a l ih =>
  cases m with
  |nil=>simp at hy
  |cons b m =>
   cases i with
   |zero =>
    simp at hx hy; subst hx hy;rw[aa6]
    split
    ·rfl
    ·rw[if_pos (by omega)]
   |succ i =>
    have e:=hp 0 a b (by omega) rfl rfl;subst e;rw[aa6,if_neg (by omega),if_neg (by omega)];exact ih (by simpa using hx) (by simpa using hy) fun j a b hj ha hb=>hp (j+1) a b (by omega) ha hb
def aez {l k:List Int} (h:k.length=l.length) (hl:l.length≤1000) (X Y:Option ρ):Ê (fun(v:Int) kk=>ų l k (Ù k) v (fun u=>kk u) (fun z=>ifb (ige z (0:Int)) X Y) (fun _=>X)) 0=if 0≤aa6 k l then X else Y:=by
 have:=Ę (r:=if 0≤aa6 k l then X else Y) (f:=fun v kk=>ų l k (Ù k) v (fun u=>kk u) (fun z=>ifb (ige z (0:Int)) X Y) (fun _=>X)) (x:=(0:Int)) (fun x=>∃i:Nat,x=i∧i≤k.length∧∀(j:Nat) (a b:Int),j<i→k[j]?=some a→l[j]?=some b→a=b) (fun x=>k.length-x.toNat) ?_ ⟨0,rfl,dK _,fun j a b hj=>by omega⟩
 ·exact this
 ·rintro x ⟨i,rfl,hi,hp⟩;rcases cV i k.length with hlt|hge
  ·have hx:k[i]?=some k[i]:=cw hlt;have hy:l[i]?=some l[i]:=cw (by omega)
   have hf:∀kn,ų l k (Ù k) (i:Int) kn (fun z=>ifb (ige z (0:Int)) X Y) (fun _=>X)=if k[i]=l[i] then kn ((i:Int)+1) else if k[i]<l[i] then Y else X:=fun kn=>by
    unfold ų;rw[Ò hlt,È hx,Í (by simp[ige,Ï]; omega),È hy,adu,À,Ì hlt (by omega)]
    by_cases h1:k[i]<l[i]
    ·rw[if_pos h1,if_neg (by omega),if_pos h1]; rfl
    ·rw[if_neg h1]
     by_cases h2:l[i]<k[i]
     ·rw[if_pos h2,if_neg (by omega),if_neg h1]; rfl
     ·rw[if_neg h2,if_pos (by omega)]; rfl
   by_cases he:k[i]=l[i]
   ·refine .inr ⟨(i:Int)+1,⟨i+1,by simp,hlt,fun j a b hj ha hb=>?_⟩,by omega,fun kn=>by rw[hf,if_pos he]⟩;rcases cV j i with h1|h1
    ·exact hp j a b h1 ha hb
    ·have:j=i:=by omega
     subst this;rw[hx] at ha; rw[hy] at hb;cases ha; cases hb;exact he
   ·refine .inl fun kn=>?_;rw[hf,if_neg he,lex_at hx hy hp he]
    by_cases h1:k[i]<l[i]
    ·rw[if_pos h1,if_pos h1]; rfl
    ·rw[if_neg h1,if_neg h1]; rfl
  ·refine .inl fun kn=>?_
   have:i=k.length:=by omega
   subst this;unfold ų;rw[à,agZ h fun j a b ha hb=>hp j a b (List.getElem?_eq_some_iff.1 ha).1 ha hb];rfl
abbrev stI (st:List Int×Nat×List Nat) (n:Nat):List Int×Int×Int×List Int:=(st.1,(st.2.1:Int),(n:Int),st.2.2.map fun(x:Nat)=>(x:Int))
def ZT (h:MOk m) {ids:List Int} (hi:ids.length≤8) {n N:Nat} (hn:n<N) (hN:N≤256) {st:List Int×Nat×List Nat} (h1:st.1.length≤8) (ho:st.2.2.length≤n) (hop:∀x∈st.2.2,x<n) (kn:List Int→Int→Int→List Int→Option ρ) (k0:Int×List Int→Option ρ) :
 Ŵ (ļ m.2) (N:Int) ids m.1.1.1 m.1.1.2 m.1.2.1 m.1.2.2.1 m.1.2.2.2.1 m.1.2.2.2.2.1 m.1.2.2.2.2.2 m.2 (stI st n).1 (stI st n).2.1 (stI st n).2.2.1 (stI st n).2.2.2 kn k0=kn (stI (Hd m ids st n) (n+1)).1 (stI (Hd m ids st n) (n+1)).2.1 (stI (Hd m ids st n) (n+1)).2.2.1 (stI (Hd m ids st n) (n+1)).2.2.2:=by
 have hcl:=oY ids n;dsimp only;unfold Ŵ
 have hop':∀x∈st.2.2,x<9223372036854775808:=fun x hx=>by have:=hop x hx; omega
 have ho':(st.2.2.map fun(x:Nat)=>(x:Int)).length≤1000:=by rw[dv]; omega
 have e1:∀f:Int→Option ρ,ck ((n:Int)+(1:Int)) f=f ((n+1:Nat):Int):=fun f=>by rw[Ó (by omega) (by omega)]; simp
 rw[Ø (by simp[ilt]; omega),Es (by omega) (by omega),À];unfold Hd
 by_cases hgt:st.1.length<(Ċ ids n).length
 ·rw[Ø (by simp[igt,Ï]; omega),if_pos (.inl hgt),e1]
 ·rw[Í (by simp[igt,Ï]; omega)]
  have inner:∀K1 K2:Option ρ,Ê (fun(v53:Int) kk55=>Ŕ (n:Int) (Ù (st.2.2.map fun(x:Nat)=>(x:Int))) (st.2.2.map fun(x:Nat)=>(x:Int)) v53 (fun u54=>kk55 u54) (fun _=>ck ((n:Int)+(1:Int)) fun n38=>kn st.1 (st.2.1:Int) n38 (st.2.2.map fun(x:Nat)=>(x:Int))) (fun _=>Ê (fun(v49:Int×List Int) kk52=>œ (n:Int) (ļ m.2) (Ù (ļ m.2)) ids m.1.1.1 m.1.1.2 m.1.2.1 m.1.2.2.1 m.1.2.2.2.1 m.1.2.2.2.2.1 m.1.2.2.2.2.2 m.2 v49.1 v49.2 (fun u50 u51=>kk52 (u50,u51)) (fun z45=>ck ((n:Int)+(1:Int)) fun n46=>kn st.1 (st.2.1:Int) n46 z45) (fun z47=>ck ((n:Int)+(1:Int)) fun n48=>kn (Ċ ids n) (n:Int) n48 z47)) ((0:Int),st.2.2.map fun(x:Nat)=>(x:Int)))) (0:Int) =
   (fun s2=>kn (stI s2 (n+1)).1 (stI s2 (n+1)).2.1 (stI s2 (n+1)).2.2.1 (stI s2 (n+1)).2.2.2) (if st.2.2.any (agz n) then st else if jP (sv m (Ċ ids n)) then(st.1,st.2.1,st.2.2++[n]) else(Ċ ids n,n,st.2.2)):=fun _ _=>by
   rw[aex h (by omega) (by omega) ho',aey (by omega) (by omega) hop',e1,e1,e1]
   cases st.2.2.any (agz n) with
   |true=>rfl
   |false =>
    cases jP (sv m (Ċ ids n)) with
    |true=>simp
    |false=>rfl
  by_cases heq:(Ċ ids n).length=st.1.length
  ·rw[Ø (by simp[ieq,Ï]; omega),inner none none,Í (show ilt (Ù (Ċ ids n)) (Ù st.1)=false by simp[ilt,Ï]; omega),aez heq (by omega),e1]
   by_cases hlex:0≤aa6 (Ċ ids n) st.1
   ·rw[if_pos hlex,if_pos (.inr ⟨heq,hlex⟩)]
   ·rw[if_neg hlex,if_neg (show ¬(st.1.length<(Ċ ids n).length∨((Ċ ids n).length=st.1.length∧0≤aa6 (Ċ ids n) st.1)) from fun h=>h.elim hgt fun h=>hlex h.2)]
  ·rw[Í (by simp[ieq,Ï]; omega),inner none none,if_neg (show ¬(st.1.length<(Ċ ids n).length∨((Ċ ids n).length=st.1.length∧0≤aa6 (Ċ ids n) st.1)) from fun h=>h.elim hgt fun h=>heq h.1)]
def aet {ids:List Int} {n:Nat} {st:List Int×Nat×List Nat} (hi:ids.length≤8) (h1:st.1.length≤8) (h2:st.2.2.length≤n) (h3:∀x∈st.2.2,x<n):(Hd m ids st n).1.length≤8∧(Hd m ids st n).2.2.length≤n+1∧∀x∈(Hd m ids st n).2.2,x<n+1:=by
 have hcl:=oY ids n;unfold Hd
 split
 ·exact⟨h1,by omega,fun x hx=>by have:=h3 x hx; omega⟩
 split
 ·exact⟨h1,by omega,fun x hx=>by have:=h3 x hx; omega⟩
 split
 ·refine⟨h1,by simp; omega,fun x hx=>?_⟩;rcases cE.1 hx with hx|hx
  ·have:=h3 x hx; omega
  ·rw[cI.1 hx]; omega
 ·exact⟨by dsimp only; omega,by dsimp only; omega,fun x hx=>by have:=h3 x hx; omega⟩
def Yl {ids:List Int} (hi:ids.length≤8):∀n,(He m ids n).1.length≤8∧(He m ids n).2.2.length≤n∧∀x∈(He m ids n).2.2,x<n
 |0=>⟨hi,cz _,fun x hx=>by cases hx⟩
 |n+1=>by
  obtain⟨h1,h2,h3⟩:=Yl hi n;have:=aet (m:=m) hi h1 h2 h3;unfold He at this ⊢;rw[List.range_succ,List.foldl_append];exact this
def pow8 {n:Nat} (h:n≤8):1≤2 ^ n∧2 ^ n≤256:=⟨Nat.one_le_pow _ _ (by decide),Nat.pow_le_pow_right (by decide) h⟩
def Za {ids:List Int} (hi:ids.length≤8):∀n,n≤256→(He m ids n).2.1≤256
 |0,_=>by have:=(pow8 hi).2; show 2 ^ ids.length-1≤256; omega
 |n+1,hn=>by
  have ih:=Za hi n (by omega);unfold He at ih ⊢;rw[List.range_succ,List.foldl_append];show(Hd m ids _ n).2.1≤256;unfold Hd
  split
  ·exact ih
  split
  ·exact ih
  split
  ·exact ih
  ·dsimp only; omega
def XX (hs:In m.1) (hn:m.2.length≤1000) {ids:List Int} (hil:ids.length≤1000000):rB m ids=some (ad9 m ids):=by
 unfold rB xj ad9;rw[mC hs hn,À]
 by_cases hc:Ĺ m=0
 ·have h:=(Ō m).1 hc;rw[Í (by simp[ine,hc]),if_neg (by simp[hc])]
  by_cases h8:8<ids.length
  ·rw[Ø (by simp[igt,Ï]; omega),if_pos h8]
  ·have hi:ids.length≤8:=by omega
   obtain⟨p1,p2⟩:=pow8 hi;rw[Í (by simp[igt,Ï]; omega),if_neg h8,aeC h.good.size.compares (by omega)]
   cases ids.all (fun i=>(Xu m).contains i) with
   |false=>rfl
   |true =>
    rw[if_pos rfl,if_neg (by simp),aeB (by omega)]
    by_cases hp:ids.Pairwise (·<·)
    ·have hsh:shlI .i64 (1:Int) (Ù ids)=((2 ^ ids.length:Nat):Int):=by
      unfold shlI;rw[Ï,Int.toNat_natCast,Nat.min_eq_left (by show ids.length≤64; omega),Int.one_mul,show((2:Int) ^ ids.length)=((2 ^ ids.length:Nat):Int) by simp,abe (by omega)]
     have e0:((2 ^ ids.length:Nat):Int)-1=((2 ^ ids.length-1:Nat):Int):=by omega
     rw[if_pos hp,if_neg (by simpa using hp),IR h,À,ċ (by simp[ile,Ï]),hsh,Ó (by omega) (by omega),e0]
     have loop:Ê (fun(v91:List Int×Int×Int×List Int) kk96=>Ŵ (ļ m.2) ((2 ^ ids.length-1:Nat):Int) ids m.1.1.1 m.1.1.2 m.1.2.1 m.1.2.2.1 m.1.2.2.2.1 m.1.2.2.2.2.1 m.1.2.2.2.2.2 m.2 v91.1 v91.2.1 v91.2.2.1 v91.2.2.2 (fun u92 u93 u94 u95=>kk96 (u92,u93,u94,u95)) (fun z89=>Ã (ik ids z89.1) fun r90=>some (r90,(0:Int)))) (ids,((2 ^ ids.length-1:Nat):Int),(0:Int),[])=some (Ċ ids (He m ids (2 ^ ids.length-1)).2.1,0):=by
      refine Ę (fun x=>∃n:Nat,n≤2 ^ ids.length-1∧x=stI (He m ids n) n) (fun x=>2 ^ ids.length-1-x.2.2.1.toNat) ?_ ⟨0,dK _,rfl⟩;rintro x ⟨n,hn',rfl⟩;obtain⟨i1,i2,i3⟩:=Yl (m:=m) hi n;rcases cV n (2 ^ ids.length-1) with hlt|hge
      ·refine .inr ⟨stI (He m ids (n+1)) (n+1),⟨n+1,hlt,rfl⟩,by dsimp only; omega,fun kn=>?_⟩;have:=ZT h hi hlt (by omega) i1 i2 i3 (fun a b c d=>kn (a,b,c,d)) (fun z89=>Ã (ik ids z89.1) fun r90=>some (r90,(0:Int)));rw[this];unfold He;rw[List.range_succ,List.foldl_append]; rfl
      ·have:n=2 ^ ids.length-1:=by omega
       subst this;refine .inl fun kn=>?_;have hf:=Za (m:=m) hi (2 ^ ids.length-1) (by omega);dsimp only;unfold Ŵ;rw[Í (by simp[ilt])];dsimp only;rw[Es (by omega) (by omega)]; rfl
     have h3:=aeA h (ids:=ids) (by omega) (s:=2 ^ ids.length-1) (by omega) (some ([],(5:Int))) (some (Ċ ids (He m ids (2 ^ ids.length-1)).2.1,0));rw[loop,h3]
     split<;>rfl
    ·rw[if_neg hp,if_pos hp]
 ·rw[Ø (by simp[ine,hc]),if_pos hc]
end
def VO (b:Ė) (x d:Int):Int:=match jn (Ô b) x d with|some j=>(j:Int)+1|none=>0
def Mh (b:Ė) (n:Int×Int):Int×Int:=if Ŏ b≠0 then(0,Ŏ b) else if VO b n.1 n.2=0 then(0,5) else(VO b n.1 n.2,0)
def Mi {b:Ė} (h:In b) (n:Int×Int):pR b n=some (Mh b n):=by
 have hl:=Ou h.size;unfold pR K7 Mh;rw[vF h.size h.num,À]
 by_cases hc:Ŏ b=0
 ·rw[Í (by simp[ine,hc]),if_neg (show ¬(Ŏ b≠0) from fun h=>h hc),PV h.size,À,show ï (Ô b) n=ï (Ô b) (n.1,n.2) from rfl,VG (by omega),À];unfold VO
  cases hx:jn (Ô b) n.1 n.2 with
  |none=>rfl
  |some j =>
   have:=(j7 hx).1;simp only;rw[Í (by simp[ilt]),Ó (by omega) (by omega),if_neg (by omega)]
 ·rw[Ø (by simp[ine,hc]),if_pos hc]
def sd (b:Ė) (n:Int×Int):Ė:=(b.1,b.2.1,b.2.2.1,b.2.2.2.1,b.2.2.2.2.1,b.2.2.2.2.2++[n])
def acu {b:Ė} (h:ż b) (n:Int×Int):vT (sd b n):=by
 have hs:=h.size;have:=h.nK;exact⟨hs.gauges,hs.uses,hs.loans,hs.compares,by simp[sd]; omega,hs.piles⟩
def ahC (b:Ė) (n:Int×Int):Ė×Int:=if Ŏ b≠0 then(adX,Ŏ b) else if Ŏ (sd b n)≠0 then(adX,Ŏ (sd b n)) else(sd b n,0)
def ahB {b:Ė} (h:In b) (n:Int×Int):IJ b n=some (ahC b n):=by
 have hs:=h.size;have h1:=hs.gauges; have h2:=hs.uses; have h3:=hs.loans; have h4:=hs.compares; have h5:=hs.looks;unfold IJ Rh ahC;rw[vF hs h.num,À]
 by_cases hc:Ŏ b=0
 ·have hg:=(ŋ b).1 hc;rw[Í (by simp[ine,hc]),Ú (by omega),Am.iff_true,Ú (by omega),Am.iff_true,Ú (by omega),Am.iff_true,Ú (by omega),Am.iff_true,Ú (by omega),Am.iff_true,if_neg (show ¬(Ŏ b≠0) from fun h=>h hc)];refine ĥ b.2.2.2.2.1 (fun _=>b.2.2.2.2.1) _ rfl (fun i d hi hd kn=>?_) (fun kn=>?_)
  ·dsimp only;unfold vk;obtain⟨p1,p2⟩:=hs.piles d (List.mem_of_getElem? hd)
   have e1:b.2.2.2.2.1.set i d=b.2.2.2.2.1:=by
    obtain⟨h,rfl⟩:=cB.1 hd;exact List.set_getElem_self h
   rw[Ò hi,Ŧ hi,ė hd,Ú (by omega),Am.iff_true,Ú (by omega),Am.iff_true,Ŧ hi,ė hd,cP];rw[show(d.1,d.2.1,d.2.2.1,d.2.2.2)=d from rfl,e1,Ŧ hi,iW hd,Ì hi (by omega)];rw[show(d.1,d.2.1,d.2.2.1,d.2.2.2.1,d.2.2.2.2)=d from rfl,e1]
  ·try dsimp only
   unfold vk;rw[à];dsimp only;rw[Ú (by simp only[List.length_singleton]; omega),Am.iff_true];rw[show Ÿ (b.1,b.2.1,b.2.2.1,b.2.2.2.1,b.2.2.2.2.1,b.2.2.2.2.2++[n])=Ÿ (sd b n) from rfl,vF (acu hg n) h.num,À]
   by_cases hc2:Ŏ (sd b n)=0
   ·rw[Í (by simp[ine,hc2]),if_neg (show ¬(Ŏ (sd b n)≠0) from fun h=>h hc2)];rfl
   ·rw[Ø (by simp[ine,hc2]),if_pos hc2];rfl
 ·rw[Ø (by simp[ine,hc]),if_pos hc];rfl
def zl (b:Ė) (n:Int×Int):Ė×Int:=if VO b n.1 n.2≠0 then(b,0) else if Ŏ (sd b n)≠0 then(adX,Ŏ (sd b n)) else(sd b n,0)
structure Room (B:Ė):Prop where
 good:ż B
 op:iq (Ř B) ((Ô B).length+1)=true
 num:∀g∈B.2.1,I64 g.2.2.2.2.1.1
def ag3 (B:Ė) (n:Int×Int):0≤VO B n.1 n.2∧VO B n.1 n.2<((Ô B).length+1:Nat):=by
 unfold VO
 cases h:jn (Ô B) n.1 n.2 with
 |none=>dsimp only; omega
 |some j=>have:=(j7 h).1; dsimp only; omega
def dstR (B:Ė) (s t:Int):Int:=dst (Ř B) ((Ô B).length+1) s t
def ivR (B:Ė) (n:Int×Int):Int×Int:=(-(dstR B (VO B n.1 n.2) 0),dstR B 0 (VO B n.1 n.2))
def O5 {ρ α:Type} {l:List α} {i:Int} (h0:0≤i) {a:α} (h:l[i.toNat]?=some a) (f:α→Option ρ):ĝ l i f=f a:=by
 obtain⟨n,rfl⟩:=Int.eq_ofNat_of_zero_le h0;exact È (by simpa using h) f
def iR (x:List Int) (y:List Int) (l:Lk):List Int:=if gv x l.2.1=Ő then y else y.set l.1.toNat (min (gv y l.1) (l.2.2+gv x l.2.1))
def Pf (L:List Lk) (N:Nat) (x:List Int):List Int:=L.foldl (iR x) (List.replicate N Ő)
def exL (L:List Lk) (N:Nat) (to:Int):Nat→List Int
 |0=>(List.replicate N Ő).set to.toNat 0
 |k+1=>Pf L N (exL L N to k)
def lG (L:List Lk) (N:Nat) (to:Int) (most:Nat):List (List Int):=(List.range (most+1)).map (exL L N to)
section
variable {L:List Lk} {N:Nat}
def F5 (x y:List Int) (l:Lk):(iR x y l).length=y.length:=by unfold iR; split<;>simp
def F6 (x:List Int):∀(M:List Lk) (y:List Int),(M.foldl (iR x) y).length=y.length
 |[],y=>rfl
 |l::M,y=>by rw[fT,F6 x M,F5]
def aaB (x:List Int):(Pf L N x).length=N:=by unfold Pf; rw[F6]; simp
def XA (to:Int) (k:Nat):(exL L N to k).length=N:=by
 cases k with
 |zero=>simp[exL]
 |succ k=>exact aaB _
def Lim (B:Int) (x:List Int):Prop:=∀v:Int,gv x v≠Ő→-B≤gv x v∧gv x v≤B
def gv_out {x:List Int} {v:Int} (h:¬v.toNat<x.length):gv x v=0:=by
 unfold gv;rw[List.getElem?_eq_none (by omega)];rfl
def Lb {B:Int} (hB:0≤B):Lim B (List.replicate N Ő):=by
 intro v hv
 by_cases h:v.toNat<N
 ·exfalso; apply hv;unfold gv;rw[List.getElem?_replicate,if_pos h];rfl
 ·rw[gv_out (by simpa using h)]; omega
def acF {B:Int} {y:List Int} (hy:Lim B y) {u:Int} (hu:0≤u) (hl:u.toNat<y.length) {a:Int} (ha:a≠Ő→-B≤a∧a≤B):Lim B (y.set u.toNat a):=by
 intro v hv
 by_cases h:v.toNat=u.toNat
 ·have:gv (y.set u.toNat a) v=a:=by
   unfold gv;rw[h,List.getElem?_set_self hl];rfl
  rw[this] at hv ⊢;exact ha hv
 ·have:gv (y.set u.toNat a) v=gv y v:=by
   unfold gv;rw[List.getElem?_set_ne (fun e=>h e.symm)]
  rw[this] at hv ⊢;exact hy v hv
def YT (hS:g9 L N) {B:Int} (hB:0≤B) (hB2:B≤1000000000000000000) {x y:List Int} (hx:Lim B x) (hy:Lim (B+4503599627370496) y) (hl:y.length=N) {l:Lk} (hm:l∈L):Lim (B+4503599627370496) (iR x y l):=by
 unfold iR
 split
 ·exact hy
 ·rename_i hf;have h1:=hS.inr l hm;have h2:=hS.most l hm;have h3:=hx _ hf;refine acF hy h1.1.1 (by omega) fun ha=>?_
  by_cases h4:gv y l.1=Ő
  ·rw[h4] at ha ⊢
   have:min Ő (l.2.2+gv x l.2.1)=l.2.2+gv x l.2.1:=by unfold Ő; omega
   rw[this]; omega
  ·have:=hy _ h4;omega
def YU (hS:g9 L N) {B:Int} (hB:0≤B) (hB2:B≤1000000000000000000) {x:List Int} (hx:Lim B x):∀(M:List Lk),(∀l∈M,l∈L)→∀y:List Int,y.length=N→Lim (B+4503599627370496) y→Lim (B+4503599627370496) (M.foldl (iR x) y)
 |[],_,y,_,hy=>hy
 |l::M,hM,y,hl,hy=>by
  rw[fT];exact YU hS hB hB2 hx M (fun m hm=>hM m (by simp[hm])) _ (by rw[F5,hl]) (YT hS hB hB2 hx hy hl (hM l (by simp)))
def BS (hS:g9 L N) {to:Int} (ht:0≤to∧to<N):∀k:Nat,k≤200→Lim (k*4503599627370496) (exL L N to k)
 |0,_=>by
  unfold exL;exact acF (Lb (by omega)) ht.1 (by simp; omega) (fun _=>by omega)
 |k+1,hk=>by
  have:=YU hS (B:=k*4503599627370496) (by omega) (by omega) (BS hS ht k (by omega)) L (fun _ h=>h) (List.replicate N Ő) (by simp) (Lb (by omega));unfold exL Pf
  have e:(((k+1:Nat):Int)*4503599627370496)=(k:Int)*4503599627370496+4503599627370496:=by push_cast; omega
  rw[e];exact this
def U4 {ρ:Type} (hN:N≤1000) (K:List Int→Option ρ) {f:Int×List Int→(Int×List Int→Option ρ)→Option ρ}
 (hf:∀(v:Int×List Int) kk,f v kk=yG (N:Int) v.1 v.2 (fun u34 u35=>kk (u34,u35)) K):Ê f ((0:Int),List.replicate N (0:Int))=K (List.replicate N Ő):=by
 refine ĥ (List.replicate N (0:Int)) (fun i=>List.replicate i Ő++List.replicate (N-i) (0:Int)) _ (by simp) (fun i a hi ha kn=>?_) (fun kn=>?_)
 ·rw[hf];dsimp only;unfold yG;rw[List.length_replicate] at hi
  have hlen:(List.replicate i Ő++List.replicate (N-i) (0:Int)).length=N:=by simp; omega
  have e1:ilt (i:Int) (N:Int)=true:=decide_eq_true (by omega);rw[Ø e1,show ò (List.replicate i Ő++List.replicate (N-i) (0:Int))=(N:Int) by unfold ò; rw[hlen],Ž (by omega) (by omega),jR (by rw[hlen]; omega),Ó (by omega) (by omega)];congr 2;rw[Int.toNat_natCast];rw[List.set_append_right _ _ (by simp),List.length_replicate,Nat.sub_self];rw[show N-i=(N-(i+1))+1 by omega,List.replicate_succ,List.set_cons_zero,List.replicate_succ'];simp
 ·rw[hf];dsimp only;unfold yG;rw[List.length_replicate];have e1:ilt (N:Int) (N:Int)=false:=decide_eq_false (by omega);rw[Í e1];simp
def okN (hN:N≤1000) {ρ:Type} (x:Option ρ):è ((ile (0:Int) (N:Int))&&(î (Int.toNat (N:Int)))) x=x:=by
 rw[ċ];rw[cP,Ú (by omega),Bool.and_true];exact decide_eq_true (by omega)
def acE {ρ:Type} (hS:g9 L N) {B:Int} (hB:0≤B) (hB2:B≤1000000000000000000) {x:List Int} (hx:Lim B x) (hxl:x.length=N) (K:List Int→Option ρ) :
 Ê (fun(v20:(Val (.pair tI (.slice tI)))) kk23=>Df x L (Ù L) v20.1 v20.2 (fun u21 u22=>kk23 (u21,u22)) K) ((0:Int),List.replicate N Ő)=K (Pf L N x):=by
 have hl3:=hS.len;refine ĥ L (fun i=>(L.take i).foldl (iR x) (List.replicate N Ő)) _ rfl (fun i l hi hl kn=>?_) (fun kn=>?_)
 ·try dsimp only
  unfold Df;have hm:=List.mem_of_getElem? hl;have h1:=hS.inr l hm;have h2:=hS.most l hm;rw[Ò hi,È hl,nS h1.2.1 (by omega),take_succ hl,List.foldl_append,Ì hi (by omega)]
  have hlen:((L.take i).foldl (iR x) (List.replicate N Ő)).length=N:=by rw[F6]; simp
  generalize (L.take i).foldl (iR x) (List.replicate N Ő)=y at hlen ⊢
  by_cases hf:gv x l.2.1=Ő
  ·rw[Í (by rw[hf]; rfl)];simp only[List.foldl_cons,List.foldl_nil];unfold iR;rw[if_pos hf]
  ·have h3:=hx _ hf;rw[Ø (bne_iff_ne.2 hf),show ò y=(N:Int) by unfold ò; rw[hlen],Ž h1.1.1 h1.1.2,jR (by omega),nS h1.2.1 (by omega),Ó (by omega) (by omega),Ž h1.1.1 h1.1.2,jR (by omega),Ì hi (by omega)];simp only[List.foldl_cons,List.foldl_nil];unfold iR;rw[if_neg hf,Xq]
 ·try dsimp only
  unfold Df;rw[à,List.take_length];rfl
def afl {ρ:Type}:@Qw ρ=@yG ρ:=rfl
def F3 (to:Int) (m:Nat):(lG L N to m).length=m+1:=by simp[lG]
def F4 {to:Int} {m k:Nat} (hk:k≤m):(lG L N to m)[k]?=some (exL L N to k):=by
 unfold lG;rw[List.getElem?_map,List.getElem?_range (by omega)];rfl
def afk (hS:g9 L N) {to:Int} (ht:0≤to∧to<N) {most:Nat} (hm:most≤100):Ei ((N:Int),L) to (most:Int)=some (lG L N to most):=by
 have hN:=hS.n60
 unfold Ei Ki
 dsimp only;rw[okN (by omega),Int.toNat_natCast];refine(U4 (by omega) _ (fun v kk=>by rw[Ï,List.length_replicate])).trans ?_;rw[show ò (List.replicate N Ő)=(N:Int) by simp[ò],Ž ht.1 ht.2,jR (by simp; omega)];refine ĥ (List.replicate most ()) (fun i=>lG L N to i) _ (by simp[lG,exL]) (fun i a hi ha kn=>?_) (fun kn=>?_)
 ·try dsimp only
  unfold Iw;rw[List.length_replicate] at hi;have e1:ilt (i:Int) (most:Int)=true:=decide_eq_true (by omega);rw[Ø e1,Ï,F3]
  have e2:(((i+1:Nat):Int)-1)=(i:Int):=by omega
  rw[e2,Ó (by omega) (by omega),show ò (lG L N to i)=((i+1:Nat):Int) by unfold ò; rw[F3],Ž (by omega) (by omega),Int.toNat_natCast,iW (F4 (Nat.le_refl i)),okN (by omega),Int.toNat_natCast];rw[afl];refine(U4 (by omega) _ (fun v kk=>by rw[Ï,List.length_replicate])).trans ?_;refine(acE hS (B:=i*4503599627370496) (by omega) (by omega) (BS hS ht i (by omega)) (XA _ _) _).trans ?_;rw[ċ (Ú (by simp only[F3,List.length_singleton]; omega)),Ó (by omega) (by omega)];congr 2;unfold lG;rw[List.range_succ (n:=i+1),List.map_append];rfl
 ·try dsimp only
  unfold Iw;rw[List.length_replicate];have e1:ilt (most:Int) (most:Int)=false:=decide_eq_false (by omega);rw[Í e1]
def PY (L:List Lk) (x:List Int) (good:Int→Bool) (u sum:Int):Option Nat:=L.findIdx? fun l=>l.1==u&&(decide (gv x l.2.1≠Ő)&&good (sum+l.2.2+gv x l.2.1))
def nW (L:List Lk) (rest:Nat→List Int) (good:Int→Bool):Nat→Int→Int→List Int→List Int
 |0,_,_,out=>out
 |k+1,u,sum,out=>match PY L (rest k) good u sum with
  |some i=>nW L rest good k (L[i]?.getD (0,0,0)).2.1 (sum+(L[i]?.getD (0,0,0)).2.2) (out++[(i:Int)])
  |none=>nW L rest good k u sum out
def folL {ρ:Type} (good:Int→Bool) (c0:Int) (c1:List (List Int)) (c2:List Lk) (c3:Int) (v0:Int) (v1:Int) (v2:Int) (v3:List Int) (kn:Int→Int→Int→List Int→Option ρ) (k0:Int×Int×List Int→Option ρ):Option ρ :=
 ifb (ilt v2 c3) (ĝ c2 v2 fun e7=>ifb (ieq e7.1 v0) (ck (c0-(1:Int)) fun n8=>ĝ c1 n8 fun e9=>ĝ e9 e7.2.1 fun e10=>ifb (ine e10 (1152921504606846976:Int)) (ck (v1+e7.2.2) fun n11=>ck (c0-(1:Int)) fun n12=>ĝ c1 n12 fun e13=>ĝ e13 e7.2.1 fun e14=>ck (n11+e14) fun n15=>ifb (good n15) (è (î ((List.length v3)+(List.length ([v2])))) (ck (v1+e7.2.2) fun n16=>k0 (e7.2.1,n16,(v3++([v2]))))) (ck (v2+(1:Int)) fun n17=>kn v0 v1 n17 v3)) (ck (v2+(1:Int)) fun n18=>kn v0 v1 n18 v3)) (ck (v2+(1:Int)) fun n19=>kn v0 v1 n19 v3)) (k0 (v0,v1,v3))
def ag9 {ρ:Type} (hS:g9 L N) (good:Int→Bool) {rest:List (List Int)} {k:Nat} {x:List Int} (hr:rest[k]?=some x) (hk:k≤100) (hx:Lim 1000000000000000000 x) (hxl:x.length=N) {u sum:Int} (hs : -1000000000000000000≤sum∧sum≤1000000000000000000) {out:List Int} (ho:out.length≤1000)
 (K:Int×Int×List Int→Option ρ):Ê (fun(v:Int×Int×Int×List Int) kk=>folL good ((k+1:Nat):Int) rest L (Ù L) v.1 v.2.1 v.2.2.1 v.2.2.2 (fun a b c d=>kk (a,b,c,d)) K) (u,sum,(0:Int),out) =
  match PY L x good u sum with|some i=>K ((L[i]?.getD (0,0,0)).2.1,sum+(L[i]?.getD (0,0,0)).2.2,out++[(i:Int)])|none=>K (u,sum,out):=by
 have hl3:=hS.len;refine Ę (fun v=>∃i:Nat,i≤L.length∧v=(u,sum,(i:Int),out)∧∀j l,j<i→L[j]?=some l→(l.1==u&&(decide (gv x l.2.1≠Ő)&&good (sum+l.2.2+gv x l.2.1)))=false) (fun v=>L.length-v.2.2.1.toNat) ?_ ⟨0,by omega,rfl,fun j l h=>by omega⟩;rintro v ⟨i,hi,rfl,hp⟩
 have e0:(((k+1:Nat):Int)-1)=(k:Int):=by omega
 rcases cV i L.length with h2|h2
 ·have hl:L[i]?=some L[i]:=cw h2;generalize L[i]=l at hl;have hm:=cG hl;have h1:=hS.inr l hm;have h4:=hS.most l hm
  have hstep:(l.1==u&&(decide (gv x l.2.1≠Ő)&&good (sum+l.2.2+gv x l.2.1)))=false→∃y,(∃i:Nat,i≤L.length∧y=(u,sum,(i:Int),out)∧∀j l,j<i→L[j]?=some l→(l.1==u&&(decide (gv x l.2.1≠Ő)&&good (sum+l.2.2+gv x l.2.1)))=false)∧(L.length-y.2.2.1.toNat<L.length-((u,sum,(i:Int),out):Int×Int×Int×List Int).2.2.1.toNat)∧y=(u,sum,(i:Int)+1,out):=fun hf =>
   ⟨_,⟨i+1,h2,by rw[show((i+1:Nat):Int)=(i:Int)+1 by push_cast; rfl],fun j m hj hm=>by
    rcases gq.1 hj with h|rfl
    ·exact hp j m h hm
    ·rw[hl] at hm; cases hm; exact hf⟩,by simp; omega,rfl⟩
  by_cases hf:(l.1==u&&(decide (gv x l.2.1≠Ő)&&good (sum+l.2.2+gv x l.2.1)))=true
  ·refine .inl fun kn=>?_
   have hfi:PY L x good u sum=some i:=by
    unfold PY;rw[List.findIdx?_eq_some_iff_getElem];obtain⟨hh,rfl⟩:=List.getElem?_eq_some_iff.1 hl;exact⟨h2,hf,fun j hj=>by have:=hp j _ hj (List.getElem?_eq_getElem (by omega)); rw[this]; simp⟩
   rw[hfi];simp only[Bool.and_eq_true,beq_iff_eq,decide_eq_true_eq] at hf;have h5:=hx _ hf.2.1;dsimp only;unfold folL
   rw[Ò h2,È hl,Ø (by simp[hf.1]),e0,Ó (by omega) (by omega),È hr,nS h1.2.1 (by omega),Ø (bne_iff_ne.2 hf.2.1),Ó (by omega) (by omega),Ó (by omega) (by omega),È hr,nS h1.2.1 (by omega),Ó (by omega) (by omega),Ø hf.2.2,
    ċ (Ú (by simp; omega)),Ó (by omega) (by omega),hl]
   rfl
  ·have hf':=Bool.not_eq_true _▸hf;obtain⟨y,hy1,hy2,rfl⟩:=hstep hf';refine .inr ⟨_,hy1,hy2,fun kn=>?_⟩;dsimp only;unfold folL;rw[Ò h2,È hl,Ì h2 (by omega)]
   by_cases g1:l.1=u
   ·rw[Ø (by simp[g1]),e0,Ó (by omega) (by omega),È hr,nS h1.2.1 (by omega)]
    by_cases g2:gv x l.2.1=Ő
    ·rw[Í (by rw[g2]; rfl)]
    ·have h5:=hx _ g2
     have g3:good (sum+l.2.2+gv x l.2.1)=false:=by simpa[g1,g2] using hf'
     rw[Ø (bne_iff_ne.2 g2),Ó (by omega) (by omega),Ó (by omega) (by omega),È hr,nS h1.2.1 (by omega),Ó (by omega) (by omega),Í g3]
   ·rw[Í (by simpa using g1)]
 ·refine .inl fun kn=>?_
  obtain rfl:i=L.length:=by omega
  have hfi:PY L x good u sum=none:=by
   unfold PY;rw[List.findIdx?_eq_none_iff];intro l hl;obtain⟨j,hj,rfl⟩:=List.mem_iff_getElem.1 hl;exact hp j _ hj (List.getElem?_eq_getElem hj)
  rw[hfi];dsimp only;unfold folL;rw[à]
def folM {ρ:Type} (good:Int→Bool) (c0:List (List Int)) (c6:List Lk) (v0:Int) (v1:Int) (v2:Int) (v3:List Int) (kn:Int→Int→Int→List Int→Option ρ) (k0:List Int→Option ρ):Option ρ :=
 ifb (igt v1 (0:Int)) (Ê (fun(v22:Int×Int×Int×List Int) kk27=>folL good v1 c0 c6 (Ù c6) v22.1 v22.2.1 v22.2.2.1 v22.2.2.2 (fun u23 u24 u25 u26=>kk27 (u23,u24,u25,u26)) (fun z20=>ck (v1-(1:Int)) fun n21=>kn z20.1 n21 z20.2.1 z20.2.2)) (v0,v2,(0:Int),v3)) (k0 v3)
def ag8 {ρ:Type} (hS:g9 L N) (good:Int→Bool) {rest:List (List Int)} {R:Nat→List Int} {k0:Nat} (hk:k0≤100) (hr:∀k,k<k0→rest[k]?=some (R k)) (hx:∀k,k<k0→Lim 900000000000000000 (R k)∧(R k).length=N) (u:Int) (K:List Int→Option ρ) :
 Ê (fun(v:Int×Int×Int×List Int) kk=>folM good rest L v.1 v.2.1 v.2.2.1 v.2.2.2 (fun a b c d=>kk (a,b,c,d)) K) (u,(k0:Int),(0:Int),[])=K (nW L R good k0 u 0 []):=by
 have key:=tE (f:=fun(v:Int×Int×Int×List Int) kk=>folM good rest L v.1 v.2.1 v.2.2.1 v.2.2.2 (fun a b c d=>kk (a,b,c,d)) K) (F:=fun v=>K (nW L R good v.2.1.toNat v.1 v.2.2.1 v.2.2.2))
  (fun v=>∃k:Nat,v.2.1=k∧k≤k0∧(-(((k0-k:Nat):Int)*4503599627370496)≤v.2.2.1∧v.2.2.1≤((k0-k:Nat):Int)*4503599627370496)∧v.2.2.2.length≤k0-k) (fun v=>v.2.1.toNat) (fun v hv kn hk=>?_) (x:=(u,(k0:Int),0,[])) ⟨k0,rfl,cz _,by simp,by simp⟩
 ·rw[key]; simp
 ·obtain⟨u,k',sum,out⟩:=v;obtain⟨k,e,h1,h2,h3⟩:=hv;dsimp only at e h2 h3 hk ⊢;subst e;rw[Int.toNat_natCast] at hk ⊢;unfold folM
  cases k with
  |zero =>
   rw[Í (by rfl)];rfl
  |succ k =>
   rw[Ø (decide_eq_true (by omega))];have hh:=hx k (by omega)
   have hlim:Lim 1000000000000000000 (R k):=fun v hv=>by have:=hh.1 v hv; omega
   refine(ag9 hS good (hr k (by omega)) (by omega) hlim hh.2 (by omega) (by omega) _).trans ?_;unfold nW
   have e0:(((k+1:Nat):Int)-1)=(k:Int):=by omega
   cases hn:PY L (R k) good u sum with
   |none =>
    dsimp only;rw[e0,Ó (by omega) (by omega),hk _ ⟨k,rfl,by omega,by dsimp only; omega,by dsimp only; omega⟩ (by simp)];simp
   |some i =>
    have hi:i<L.length:=by
     unfold PY at hn;exact(List.findIdx?_eq_some_iff_getElem.1 hn).1
    have hl:L[i]?=some L[i]:=List.getElem?_eq_getElem hi;have h4:=hS.most L[i] (List.getElem_mem _);dsimp only;rw[hl];simp only[Option.getD_some];rw[e0,Ó (by omega) (by omega),hk _ ⟨k,rfl,by omega,by dsimp only; omega,by simp; omega⟩ (by simp)];simp
end
def A0 (L:List Lk):Int→Int→List Int→Int×Int×Bool
 |u,s,[]=>(u,s,true)
 |u,s,i::t=>if (L[i.toNat]?.getD (0,0,0)).1=u then A0 L (L[i.toNat]?.getD (0,0,0)).2.1 (s+(L[i.toNat]?.getD (0,0,0)).2.2) t else(0,0,false)
def AY (L:List Lk) (i:Int):Bool:=decide (i<0)||decide ((L.length:Int)≤i)
def kP (L:List Lk) (l:List Int):Int:=if 80<l.length then 2 else if l.any (AY L) then 1 else 0
def Zj (u:Int) (w:Int×Int×Bool):Int:=if w.2.2=true∧w.1=u∧w.2.1<0 then 0 else 8
def ŝ (L:List Lk) (l:List Int):Int :=
 if kP L l≠0 then kP L l else match l with
 |[]=>8
 |i::_=>Zj (L[i.toNat]?.getD (0,0,0)).1 (A0 L (L[i.toNat]?.getD (0,0,0)).1 0 l)
section
variable {L:List Lk} {N:Nat}
def aav (N:Int) (hL:L.length≤1000) (l:List Int):vt (N,L) l=some (kP L l):=by
 unfold vt Bx kP;dsimp only;rw[Ï]
 by_cases h:80<l.length
 ·rw[Ø (decide_eq_true (by omega)),if_pos h]
 ·rw[Í (decide_eq_false (by omega)),if_neg h,←Ï l];refine(ĵ l (AY L) (fun z=>ifb (ige z 0) (some 1) (some 0)) (some 1) (some 0) (fun j=>by rw[show ige (j:Int) 0=true from decide_eq_true (by omega)]; rfl) (fun i a hi ha kn=>?_) (fun kn=>?_)).trans ?_
  ·try dsimp only
   unfold mu AY;rw[Ò hi,È ha,Ì hi (by omega),Ï,ć,ć]
   by_cases h1:a<0
   ·simp[ilt,h1]
   ·by_cases h2:(L.length:Int)≤a
    ·simp[ilt,ige,h1,h2]
    ·simp[ilt,ige,h1,h2]
  ·try dsimp only
   unfold mu;rw[à]
  ·cases l.any (AY L)<;>rfl
def Xt {l:List Int} (h:kP L l=0):l.length≤80∧∀i∈l,0≤i∧i.toNat<L.length:=by
 unfold kP at h
 split at h
 ·omega
 ·rename_i h1
  split at h
  ·omega
  ·rename_i h2;refine⟨by omega,fun i hi=>?_⟩;have:=dz.1 (dN.2 h2) i hi;simp[AY] at this;omega
def ags (hS:g9 L N) (u:Int) {l:List Int} (h:kP L l=0):IG ((N:Int),L) u l=some (A0 L u 0 l):=by
 obtain⟨hl,hi⟩:=Xt h;unfold IG Qu;dsimp only
 have:=tE (f:=fun(v7:Int×Int×Int) kk11=>uI l (Ù l) L v7.1 v7.2.1 v7.2.2 (fun u8 u9 u10=>kk11 (u8,u9,u10)) (fun z5=>some (z5.1,z5.2.1,z5.2.2)) (fun z6=>some (z6.1,z6.2,true)))
  (F:=fun v=>some (A0 L v.1 v.2.1 (l.drop v.2.2.toNat))) (fun v=>∃i:Nat,v.2.2=i∧i≤l.length∧(-(i*4503599627370496)≤v.2.1∧v.2.1≤i*4503599627370496)) (fun v=>l.length-v.2.2.toNat) (fun v hv kn hk=>?_) (x:=(u,(0:Int),(0:Int))) ⟨0,rfl,by omega,by simp⟩
 ·exact this
 ·obtain⟨w,s,n⟩:=v;obtain⟨i,e,h1,h2⟩:=hv;dsimp only at e h2 hk ⊢;subst e;rw[Int.toNat_natCast] at hk ⊢;unfold uI;rcases Nat.lt_or_ge i l.length with h3|h3
  ·have ha:l[i]?=some l[i]:=List.getElem?_eq_getElem h3;have hd:l.drop i=l[i]::l.drop (i+1):=List.drop_eq_getElem_cons h3;rw[hd];have hx:=hi l[i] (List.getElem_mem _);generalize l[i]=a at ha hx;have hg:L[a.toNat]?=some L[a.toNat]:=List.getElem?_eq_getElem hx.2;have hm:=hS.most _ (List.mem_of_getElem? hg);generalize L[a.toNat]=x at hg hm;rw[Ò h3,È ha,O5 hx.1 hg];unfold A0;rw[hg];simp only[Option.getD_some]
   by_cases hc:x.1=w
   ·rw[Í (by rw[hc]; exact bne_self_eq_false' _),if_pos hc,Ó (by omega) (by omega),Ì h3 (by omega),hk _ ⟨i+1,by push_cast; rfl,h3,by dsimp only; push_cast; omega⟩ (by simp; omega)];simp
   ·rw[Ø (bne_iff_ne.2 hc),if_neg hc]
  ·obtain rfl:i=l.length:=by omega
   rw[à,List.drop_length];rfl
def acQ {ρ α:Type} (x:α) (t:List α) (f:α→Option ρ):ĝ (x::t) (0:Int) f=f x:=rfl
def N2 (hS:g9 L N) (l:List Int):mA ((N:Int),L) l=some (ŝ L l):=by
 have hl3:=hS.len;unfold mA rX ŝ;rw[jd hS,À,Í (by rfl),aav _ (by omega),À]
 by_cases h:kP L l=0
 ·rw[Í (by rw[h]; rfl),if_neg (by simp[h])]
  cases l with
  |nil=>rw[Ï]; rfl
  |cons i t =>
   have hx:=(Xt h).2 i (by simp);have hg:L[i.toNat]?=some L[i.toNat]:=List.getElem?_eq_getElem hx.2;generalize L[i.toNat]=x at hg;rw[Ï,Í (beq_eq_false_iff_ne.2 (by simp; omega)),acQ,O5 hx.1 hg,ags hS x.1 h,À];dsimp only;rw[hg];dsimp only[Option.getD_some];generalize A0 L x.1 0 (i::t)=w;obtain⟨e,sum,ok⟩:=w;unfold Zj;dsimp only
   cases ok with
   |false=>rw[Ø (by rfl),if_neg (by simp)]
   |true =>
    rw[Í (by rfl)]
    by_cases h2:e=x.1
    ·rw[Í (by rw[h2]; exact bne_self_eq_false' _)]
     by_cases h3:sum<0
     ·rw[Í (decide_eq_false (by omega)),if_pos ⟨rfl,h2,h3⟩]
     ·rw[Ø (decide_eq_true (by omega)),if_neg (fun h=>h3 h.2.2)]
    ·rw[Ø (bne_iff_ne.2 h2),if_neg (fun h=>h2 h.2.1)]
 ·rw[Ø (bne_iff_ne.2 h),if_pos h]
end
def aaL {L:List Lk} {N:Nat} (h:g9 L N) (ho:iq L N=true):ny ((N:Int),L)=some ([],5):=by
 have hN:=h.n60;unfold ny Dm;rw[jd h,À,Í (by rfl),ud h.links h.n1 (by omega),À,if_pos ho];rfl
def ZG (b:Ė) (n:Int×Int):Prop:=∃g∈b.2.1,g.1=n.1∧n.2∈æ b g
def Ry {b:Ė} (h:ż b) {n:Int×Int}:VO b n.1 n.2≠0↔ZG b n:=by
 unfold VO;constructor
 ·intro hne
  cases hx:jn (Ô b) n.1 n.2 with
  |none=>rw[hx] at hne; simp at hne
  |some j =>
   have hm:=List.mem_of_getElem? (j7 hx).2;unfold Ô at hm;obtain⟨g,hg,hd⟩:=List.mem_flatMap.1 hm;obtain⟨d,hd,e⟩:=List.mem_map.1 hd;simp only[Prod.mk.injEq] at e;obtain⟨e1,rfl⟩:=e;exact⟨g,hg,e1,hd⟩
 ·rintro⟨g,hg,e,hd⟩;obtain⟨i,hi,rfl⟩:=List.mem_iff_getElem.1 hg;obtain⟨k,hk,e2⟩:=List.mem_iff_getElem.1 hd;rw[←e,PW h (List.getElem?_eq_getElem hi) (by rw[List.getElem?_eq_getElem hk,e2])];dsimp only;omega
def acv {b:Ė} (n:Int×Int) (h':ż (sd b n)):ZG (sd b n) n:=by
 have hu:=h'.looks n (by simp[sd]);unfold abn at hu
 split at hu
 ·omega
 obtain⟨g,hg,_⟩:=EX h' hu;obtain⟨hm,e⟩:=iN hg;refine⟨g,hm,e,?_⟩;unfold æ;rw[Cg];unfold Va sd;simp only[List.mem_append,List.mem_map,List.mem_filter];exact .inr ⟨n,⟨.inr (by simp),by simp[e]⟩,rfl⟩
def abx {b:Ė} {n:Int×Int} (e:(zl b n).2=0):(zl b n=(b,0)∧VO b n.1 n.2≠0)∨(zl b n=(sd b n,0)∧ż (sd b n)∧VO b n.1 n.2=0):=by
 unfold zl at e ⊢
 split
 ·rename_i h; exact .inl ⟨rfl,h⟩
 ·rename_i h1;rw[if_neg h1] at e
  split
  ·rename_i h2; rw[if_pos h2] at e; exact absurd e h2
  ·rename_i h2; exact .inr ⟨rfl,(ŋ _).1 (by simpa using h2),by simpa using h1⟩
def acw {b:Ė} {n:Int×Int} {f:Int→Int→Int} {z:Int}:Hist (sd b n) f z↔Hist b f z :=
 ⟨fun h=>⟨fun g hg=>by have:=h.gauge g hg; exact⟨this.hi,this.lo,this.down,this.loss⟩,h.cmp⟩,fun h=>⟨fun g hg=>by have:=h.gauge g hg; exact⟨this.hi,this.lo,this.down,this.loss⟩,h.cmp⟩⟩
section
variable {L:List Lk} {N:Nat}
def XZ (h:g9 L N) (ht:N0 L N):rE ((N:Int),L)=some (if iq L N then(ml L N 0,0) else([],9)):=by
 have h2:=h.n60;have h3:=h.n1;unfold rE xH;rw[Zy h (by simp) (by simp),À]
 by_cases ho:iq L N=true
 ·rw[if_pos ho,Í (by rfl),L7 h.links h.n1 (by omega) ho ⟨by omega,by omega⟩,À,ń (by rw[jX]; omega),À,if_pos ho];rw[Í];rw[Bool.eq_false_iff];intro hc;have hm:=List.contains_iff_mem.1 hc;obtain⟨i,hi,he⟩:=List.mem_iff_getElem.1 hm;rw[jX] at hi;have:=aaZ h ht ho (v:=i) (by omega) (by omega);unfold gv at this;rw[Int.toNat_natCast,List.getElem?_eq_getElem (by rw[jX]; exact hi)] at this;simp only[Option.getD_some] at this;omega
 ·rw[if_neg ho,Ø (by rfl),if_neg ho]
end
def adf {b:Ė} (h:ż b) {y:List Int} (hy:y.length=(Ô b).length+1) (h0:gv y 0=0) (hp:Pot (Ř b) (gv y)):N1 b (y.drop 1)=(true,0):=by
 have e:0::y.drop 1=y:=by
  cases y with
  |nil=>simp at hy
  |cons a t =>
   have:a=0:=h0;rw[this]; rfl
 rw[aed];refine⟨h,UP.2 ⟨by simp; omega,fun n hn=>?_⟩,?_⟩
 ·obtain⟨i,hi,rfl⟩:=List.mem_iff_getElem.1 hn;rw[List.length_drop] at hi;have:=aeJ h hp (v:=((1+i:Nat):Int)) (by omega) (by omega);rw[h0] at this;unfold gv at this;rw[Int.toNat_natCast,List.getElem?_eq_getElem (by omega)] at this;rw[List.getElem_drop];simp only[Option.getD_some] at this;omega
 ·unfold aaz;rw[e];exact U3.2 hp
def ac1 {b:Ė} (h:ż b) {x:List Int} (hf:aaz b x=true):iq (Ř b) ((Ô b).length+1)=true:=by
 have:=h.sys.n60;exact(Η h.sys.links (by omega)).2 ⟨_,U3.1 (show RG (Ř b) (0::x)=true from hf)⟩
inductive Wk (L:List Lk) (to:Int):Nat→Int→Int→Prop
 |nil:Wk L to 0 to 0
 |step {k:Nat} {v w m d:Int}:(v,w,m)∈L→Wk L to k w d→Wk L to (k+1) v (m+d)
section
variable {L:List Lk} {N:Nat}
def Wk.snoc {u v m:Int} (hl:(u,v,m)∈L):∀{k:Nat} {s d:Int},Wk L u k s d→Wk L v (k+1) s (d+m):=by
 intro k s d h
 induction h with
 |nil =>
  have:=Wk.step hl (Wk.nil (L:=L) (to:=v))
  have e:m+0=0+m:=by omega
  rw[e] at this;exact this
 | @step k a w m' d h1 h2 ih =>
  have:=Wk.step h1 ih
  have e:m'+(d+m)=m'+d+m:=by omega
  rw[e] at this;exact this
def Wk.bd (hS:g9 L N) {t:Int} {k:Nat} {s d:Int} (h:Wk L t k s d) : -(k*4503599627370496)≤d∧d≤k*4503599627370496:=by
 induction h with
 |nil=>omega
 | @step k v w m d h1 h2 ih =>
  have:=hS.most _ h1;dsimp only at this;push_cast;omega
def Xv {v:Int} (h0:0≤v) (h1:v<N):gv (List.replicate N Ő) v=Ő:=by
 unfold gv;rw[List.getElem?_replicate,if_pos (by omega)];rfl
def ae0 {B:Int} (hB:B≤1100000000000000000) {x:List Int} (hx:Lim B x) (v:Int):gv x v≤Ő:=by
 by_cases h:gv x v=Ő
 ·omega
 ·have:=hx v h; unfold Ő; omega
def Ed (hS:g9 L N) {B:Int} (hB:0≤B) (hB2:B≤1000000000000000000) {x:List Int} (hx:Lim B x) {v:Int} (h0:0≤v) (h1:v<N) :
 ∀(M:List Lk),(∀l∈M,l∈L)→∀y:List Int,y.length=N→Lim (B+4503599627370496) y →
  gv (M.foldl (iR x) y) v≤gv y v∧(∀w m,(v,w,m)∈M→gv x w≠Ő→gv (M.foldl (iR x) y) v≤m+gv x w) ∧
  (gv (M.foldl (iR x) y) v=gv y v∨∃w m,(v,w,m)∈M∧gv x w≠Ő∧gv (M.foldl (iR x) y) v=m+gv x w)
 |[],_,y,_,_=>⟨dJ _,fun _ _ h=>by simp at h,.inl rfl⟩
 |l::M,hM,y,hl,hy=>by
  rw[fT];have hlm:=hM l (by simp);obtain⟨i1,i2,i3⟩:=Ed hS hB hB2 hx h0 h1 M (fun m hm=>hM m (by simp[hm])) (iR x y l) (by rw[F5,hl]) (YT hS hB hB2 hx hy hl hlm);have hr:=hS.inr l hlm;have hyF:=ae0 (by omega) hy
  -- the element behind one link
  have key:gv (iR x y l) v≤gv y v∧(l.1=v→gv x l.2.1≠Ő→gv (iR x y l) v≤l.2.2+gv x l.2.1)∧(gv (iR x y l) v=gv y v∨(l.1=v∧gv x l.2.1≠Ő∧gv (iR x y l) v=l.2.2+gv x l.2.1)):=by
   unfold iR
   by_cases hf:gv x l.2.1=Ő
   ·rw[if_pos hf];exact⟨dJ _,fun _ h=>absurd hf h,.inl rfl⟩
   ·rw[if_neg hf,ru hr.1.1 h0 (by omega)]
    by_cases hv:v=l.1
    ·rw[if_pos hv,hv];refine⟨by omega,fun _ _=>by omega,?_⟩
     by_cases hc:gv y l.1≤l.2.2+gv x l.2.1
     ·exact .inl (by omega)
     ·exact .inr ⟨rfl,hf,by omega⟩
    ·rw[if_neg hv];exact⟨dJ _,fun h=>absurd h.symm hv,.inl rfl⟩
  obtain⟨k1,k2,k3⟩:=key;refine⟨by omega,fun w m hm hw=>?_,?_⟩
  ·rcases cF.1 hm with h|h
   ·subst h;have:=k2 rfl hw;dsimp only at this;omega
   ·exact i2 w m h hw
  ·rcases i3 with h|⟨w,m,h,hw,e⟩
   ·rcases k3 with h'|⟨h',hw,e⟩
    ·exact .inl (h.trans h')
    ·refine .inr ⟨l.2.1,l.2.2,?_,hw,h.trans e⟩;rw[←h']; simp
   ·exact .inr ⟨w,m,by simp[h],hw,e⟩
def RM (hS:g9 L N) {to:Int} (ht:0≤to∧to<N):∀k:Nat,k≤200→∀v:Int,0≤v→v<N →
 (gv (exL L N to k) v≠Ő→Wk L to k v (gv (exL L N to k) v))∧∀d,Wk L to k v d→gv (exL L N to k) v≤d∧gv (exL L N to k) v≠Ő
 |0,_,v,h0,h1=>by
  unfold exL;rw[ru ht.1 h0 (by simp; omega)]
  by_cases hv:v=to
  ·subst hv;rw[if_pos rfl];refine⟨fun _=>.nil,fun d hd=>?_⟩;cases hd;exact⟨dJ _,by decide⟩
  ·rw[if_neg hv,Xv h0 h1];refine⟨fun h=>absurd rfl h,fun d hd=>?_⟩;cases hd;exact absurd rfl hv
 |k+1,hk,v,h0,h1=>by
  have hlim:=BS hS ht k (by omega);obtain⟨i1,i2,i3⟩:=Ed hS (B:=k*4503599627370496) (by omega) (by omega) hlim h0 h1 L (fun _ h=>h) (List.replicate N Ő) (by simp) (Lb (by omega));have ih:=RM hS ht k (by omega);unfold exL Pf;refine⟨fun hf=>?_,fun d hd=>?_⟩
  ·rcases i3 with h|⟨w,m,h,hw,e⟩
   ·rw[Xv h0 h1] at h; exact absurd h hf
   ·rw[e];have hwr:=(hS.inr _ h).2;exact .step h ((ih w hwr.1 hwr.2).1 hw)
  ·have hb:=Wk.bd hS hd
   cases hd with
   | @step k' v' w m d h h2 =>
    have hwr:=(hS.inr _ h).2;obtain⟨j1,j2⟩:=(ih w hwr.1 hwr.2).2 d h2;have:=i2 w m h j2;refine⟨by omega,?_⟩
    have hq:(m+d)≤1000000000000000000:=by push_cast at hb; omega
    intro hF;rw[hF] at this;unfold Ő at this;omega
def afm (hS:g9 L N) {to:Int} (ht:0≤to∧to<N) {k:Nat} (hk:k+1≤200) {u:Int} (hu:0≤u∧u<N) (hf:gv (exL L N to (k+1)) u≠Ő) :
 ∃w m,(u,w,m)∈L∧gv (exL L N to k) w≠Ő∧gv (exL L N to (k+1)) u=m+gv (exL L N to k) w:=by
 have hlim:=BS hS ht k (by omega);obtain⟨_,_,i3⟩:=Ed hS (B:=k*4503599627370496) (by omega) (by omega) hlim hu.1 hu.2 L (fun _ h=>h) (List.replicate N Ő) (by simp) (Lb (by omega));have e:exL L N to (k+1)=L.foldl (iR (exL L N to k)) (List.replicate N Ő):=rfl;rw[e] at hf ⊢;rcases i3 with h|h
 ·rw[Xv hu.1 hu.2] at h; exact absurd h hf
 ·exact h
def Lz (hS:g9 L N) {to:Int} (ht:0≤to∧to<N) (good:Int→Bool):∀(k:Nat),k≤200→∀(u sum:Int) (out:List Int),0≤u→u<N→gv (exL L N to k) u≠Ő→good (sum+gv (exL L N to k) u)=true →
 ∃q,nW L (exL L N to) good k u sum out=out++q∧q.length=k∧(∀i∈q,AY L i=false)∧∃s,A0 L u sum q=(to,s,true)∧good s=true
 |0,_,u,sum,out,h0,h1,hf,hg=>by
  have hu:u=to:=by
   have hw:=((RM hS ht 0 (by omega) u h0 h1).1 hf);generalize gv (exL L N to 0) u=y at hw;cases hw;rfl
  subst hu
  have e:gv (exL L N u 0) u=0:=by
   unfold exL;rw[ru ht.1 h0 (by simp; omega),if_pos rfl]
  rw[e,gu] at hg;exact⟨[],by simp[nW],rfl,by simp,sum,rfl,hg⟩
 |k+1,hk,u,sum,out,h0,h1,hf,hg=>by
  obtain⟨w,m,hl,hw,e⟩:=afm hS ht hk ⟨h0,h1⟩ hf;unfold nW PY
  cases hn:L.findIdx? (fun l=>l.1==u&&(decide (gv (exL L N to k) l.2.1≠Ő)&&good (sum+l.2.2+gv (exL L N to k) l.2.1))) with
  |none =>
   have:=dB.1 hn (u,w,m) hl;rw[e,←Int.add_assoc] at hg;simp[hw,hg] at this
  |some i =>
   obtain⟨hi,hp,_⟩:=List.findIdx?_eq_some_iff_getElem.1 hn;have hg2:L[i]?=some L[i]:=List.getElem?_eq_getElem hi;have hm:=List.mem_of_getElem? hg2;generalize L[i]=x at hp hg2 hm;simp only[Bool.and_eq_true,beq_iff_eq,decide_eq_true_eq] at hp;obtain⟨p1,p2,p3⟩:=hp;have hr:=(hS.inr x hm).2;obtain⟨q,q1,q2,q3,s,q4,q5⟩:=Lz hS ht good k (by omega) x.2.1 (sum+x.2.2) (out++[(i:Int)]) hr.1 hr.2 p2 p3;dsimp only;rw[hg2];simp only[Option.getD_some];refine⟨(i:Int)::q,by rw[q1]; simp,by simp[q2],fun j hj=>?_,s,?_,q5⟩
   ·rcases cF.1 hj with rfl|hj
    ·simp[AY]; omega
    ·exact q3 j hj
   ·unfold A0;rw[Int.toNat_natCast,hg2];simp only[Option.getD_some];rw[if_pos p1];exact q4
def ae2 {P:Int→Prop} {B:Int} (h:∃d,P d) (hB:∀d,P d→B≤d):∃d,P d∧∀e,P e→d≤e:=by
 obtain⟨d0,h0⟩:=h
 have:∀(n:Nat) (d:Int),P d→(d-B).toNat≤n→∃d,P d∧∀e,P e→d≤e:=by
  intro n
  induction n with
  |zero=>intro d hd hn; exact⟨d,hd,fun e he=>by have:=hB e he; have:=hB d hd; omega⟩
  |succ n ih =>
   intro d hd hn
   by_cases hx:∃e,P e∧e<d
   ·obtain⟨e,he,hl⟩:=hx;exact ih e he (by have:=hB e he; omega)
   ·exact⟨d,hd,fun e he=>by
     rcases gH e d with q|q
     ·exact absurd ⟨e,he,q⟩ hx
     ·exact q⟩
 exact this _ d0 h0 (cz _)
def Wl.cutK {S:Int→Prop} {vs:List Int} {u d:Int} (h:Wl L S vs u d):∀x∈u::vs,∃vs1 d1 k d2,Wl L S vs1 x d1∧(x::vs1) <:+ (u::vs)∧Wk L u k x d2∧d=d1+d2∧k≤vs.length:=by
 induction h with
 | @nil v hv =>
  intro x hx;simp at hx;subst hx;exact⟨[],0,0,0,.nil hv,List.suffix_refl _,.nil,by omega,by simp⟩
 | @step vs u v m d hw hl ih =>
  intro x hx;rcases cF.1 hx with rfl|hx
  ·exact⟨u::vs,d+m,0,0,.step hw hl,List.suffix_refl _,.nil,by omega,by simp⟩
  ·obtain⟨vs1,d1,k,d2,g1,g2,g3,g4,g5⟩:=ih x hx;exact⟨vs1,d1,k+1,d2+m,g1,g2.trans (List.suffix_cons _ _),g3.snoc hl,by omega,by simp; omega⟩
def Z9 (hS:g9 L N) (hno:iq L N=false):∃(k:Nat) (v d:Int),1≤k∧k≤N∧(0≤v∧v<N)∧Wk L v k v d∧d<0:=by
 have hn:=hS.n60;apply Classical.byContradiction;intro hc
 have hcl:∀{k:Nat} {v d:Int},1≤k→k≤N→(0≤v∧v<N)→Wk L v k v d→0≤d:=fun {k v d} h1 h2 h3 h4=>by
  rcases gH d 0 with q|q
  ·exact absurd ⟨k,v,d,h1,h2,h3,h4,q⟩ hc
  ·exact q
 have hinr:∀l∈L,-4503599627370496≤l.2.2:=fun l hl=>(hS.most l hl).1
 let P:Int→Int→Prop:=fun v d=>∃vs,Wl L (fun u=>0≤u∧u<N) vs v d∧(v::vs).Nodup
 have hP:∀v:Int,0≤v∧v<N→∃d,P v d∧∀e,P v e→d≤e:=fun v hv=>ae2 (B:=-(60*4503599627370496)) ⟨0,[],.nil hv,by simp⟩ (by
  rintro d ⟨vs,h1,h2⟩;have q1:=h1.lowM hinr;have q2:=h1.short hS.inr (fun w hw=>hw) h2
  have:((vs.length:Nat):Int)*4503599627370496≤60*4503599627370496:=by omega
  omega)
 have ho:iq L N=true:=by
  refine(Η hS.links (by omega)).2 ⟨fun v=>if hv:0≤v∧v<(N:Int) then Classical.choose (hP v hv) else 0,fun u v m hl=>?_⟩;have hr:=hS.inr _ hl;dsimp only at hr;obtain⟨⟨vs,hw,hnd⟩,hu2⟩:=Classical.choose_spec (hP u hr.1);obtain⟨_,hv2⟩:=Classical.choose_spec (hP v hr.2);have e1:(if hv:0≤u∧u<(N:Int) then Classical.choose (hP u hv) else 0)=Classical.choose (hP u hr.1):=dif_pos hr.1;have e2:(if hv:0≤v∧v<(N:Int) then Classical.choose (hP v hv) else 0)=Classical.choose (hP v hr.2):=dif_pos hr.2;dsimp only;rw[e1,e2];generalize Classical.choose (hP u hr.1)=a at *;generalize Classical.choose (hP v hr.2)=b at *
  by_cases hv:v∈u::vs
  ·obtain⟨vs1,d1,k,d2,g1,g2,g3,g4,g5⟩:=hw.cutK v hv;have hlen:=hw.short hS.inr (fun w hw=>hw) hnd;have:=hcl (by omega) (by omega) hr.2 (g3.snoc hl);have:=hv2 d1 ⟨vs1,g1,hnd.sublist g2.sublist⟩;omega
  ·have:=hv2 (a+m) ⟨u::vs,hw.step hl,eO.2 ⟨hv,hnd⟩⟩;omega
 rw[hno] at ho;cases ho
def la (L:List Lk) (N:Nat) (k:Nat) (l:Lk):Bool:=decide (gv (exL L N l.1 k) l.2.1≠Ő)&&decide (l.2.2+gv (exL L N l.1 k) l.2.1<0)
def aa0 (hS:g9 L N) (hno:iq L N=false):∃k,k<N∧∃l∈L,la L N k l=true:=by
 have hn:=hS.n60;obtain⟨k,v,d,h1,h2,h3,h4,h5⟩:=Z9 hS hno
 cases h4 with
 |nil=>omega
 | @step k v w m d hl hk =>
  have hr:=hS.inr _ hl;obtain⟨e1,e2⟩:=(RM hS h3 k (by omega) w hr.2.1 hr.2.2).2 d hk;refine⟨k,by omega,(v,w,m),hl,?_⟩;simp only[la,cA,decide_eq_true_eq];exact⟨e2,by omega⟩
def Vg (hS:g9 L N) {k:Nat} (hk:k<N) {l:Lk} (hl:l∈L) (hb:la L N k l=true) :
 ∃q,nW L (exL L N l.1) (fun n=>ilt n 0) (k+1) l.1 0 []=q∧q.length=k+1∧(∀i∈q,AY L i=false)∧ŝ L q=0∧∃u s,A0 L u 0 q=(u,s,true)∧s<0:=by
 have hn:=hS.n60;have hr:=hS.inr _ hl;simp only[la,cA,decide_eq_true_eq] at hb;have hlim:=BS hS hr.1 k (by omega);obtain⟨_,i2,_⟩:=Ed hS (B:=k*4503599627370496) (by omega) (by omega) hlim hr.1.1 hr.1.2 L (fun _ h=>h) (List.replicate N Ő) (by simp) (Lb (by omega));have h2:gv (exL L N l.1 (k+1)) l.1≤l.2.2+gv (exL L N l.1 k) l.2.1:=i2 l.2.1 l.2.2 hl hb.1
 have hne:gv (exL L N l.1 (k+1)) l.1≠Ő:=fun h=>by rw[h] at h2; unfold Ő at h2; omega
 obtain⟨q,q1,q2,q3,s,q4,q5⟩:=Lz hS hr.1 (fun n=>ilt n 0) (k+1) (by omega) l.1 0 [] hr.1.1 hr.1.2 hne (by rw[Int.zero_add]; exact decide_eq_true (by omega));rw[dM] at q1;have hs:s<0:=of_decide_eq_true q5;refine⟨q,q1,q2,q3,?_,l.1,s,q4,hs⟩
 have hany:q.any (AY L)=false:=by
  rw[dz]
  exact fun i hi=>by rw[q3 i hi]; simp
 cases q with
 |nil=>simp at q2
 |cons i t =>
  have hi:=q3 i (by simp);simp only[AY,f8,decide_eq_false_iff_not] at hi;have hg:L[i.toNat]?=some L[i.toNat]:=cw (by omega)
  have hfst:(L[i.toNat]?.getD (0,0,0)).1=l.1:=by
   unfold A0 at q4
   by_cases h:(L[i.toNat]?.getD (0,0,0)).1=l.1
   ·exact h
   ·rw[if_neg h] at q4; simp at q4
  have hix:kP L (i::t)=0:=by
   unfold kP;rw[if_neg (by omega),hany];rfl
  unfold ŝ;rw[hix,if_neg (by simp)];dsimp only;rw[hfst,q4];unfold Zj;dsimp only;rw[if_pos ⟨rfl,rfl,hs⟩]
end
def Ya {L:List Lk} {p:Int→Int} (hp:Pot L p):∀(l:List Int) (u s:Int),(∀i∈l,0≤i∧i.toNat<L.length)→(A0 L u s l).2.2=true→p (A0 L u s l).1-p u≤(A0 L u s l).2.1-s
 |[],u,s,_,_=>by simp[A0]
 |i::t,u,s,hi,hw=>by
  have hx:=hi i (by simp);have hg:L[i.toNat]?=some L[i.toNat]:=List.getElem?_eq_getElem hx.2;have hm:=List.mem_of_getElem? hg;generalize L[i.toNat]=x at hg hm;unfold A0 at hw ⊢;rw[hg] at hw ⊢;simp only[Option.getD_some] at hw ⊢
  split at hw
  ·rename_i hc;rw[if_pos hc];have h1:=hp x.1 x.2.1 x.2.2 hm;have h2:=Ya hp t x.2.1 (s+x.2.2) (fun j hj=>hi j (by simp[hj])) hw;rw[hc] at h1;omega
  ·cases hw
section
variable {L:List Lk} {N:Nat}
def afu {ρ:Type} (c0:List (List Int)) (c6:List Lk):@xI ρ c0 c6=folM (fun n=>ilt n 0) c0 c6:=rfl
def wu (L:List Lk) (N:Nat):List (List (List Int)):=(List.range N).map fun(n:Nat)=>lG L N n N
def ZO {L:List Lk} {N n:Nat} (h:n<N):(wu L N)[n]?=some (lG L N n N):=by
 unfold wu;rw[List.getElem?_map,List.getElem?_range h];rfl
def VW {ρ:Type} (hS:g9 L N) (K:List (List (List Int))→Option ρ) :
 Ê (fun(v56:Int×List (List (List Int))) kk59=>m8 (Ù (List.replicate N ([]:(Val (.slice (.slice tI)))))) (N:Int) L v56.1 v56.2 (fun u57 u58=>kk59 (u57,u58)) K) ((0:Int),(List.replicate N ([]:(Val (.slice (.slice tI))))))=K (wu L N):=by
 have hN:=hS.n60;refine ĥ (List.replicate N ()) (fun i=>((List.range i).map fun(n:Nat)=>lG L N n N)++List.replicate (N-i) ([]:List (List Int))) _ (by simp) (fun i a hi ha kn=>?_) (fun kn=>?_)
 ·try dsimp only
  unfold m8;rw[List.length_replicate] at hi;rw[Ï,List.length_replicate,Ø (decide_eq_true (by omega)),afk hS ⟨by omega,by omega⟩ (by omega),À]
  have hlen:(((List.range i).map fun(n:Nat)=>lG L N n N)++List.replicate (N-i) ([]:List (List Int))).length=N:=by simp; omega
  rw[show ò (((List.range i).map fun(n:Nat)=>lG L N n N)++List.replicate (N-i) ([]:List (List Int)))=(N:Int) by unfold ò; rw[hlen],Ž (by omega) (by omega),Int.toNat_natCast]
  have hget:(((List.range i).map fun(n:Nat)=>lG L N n N)++List.replicate (N-i) ([]:List (List Int)))[i]?=some []:=by
   rw[fD (by simp),gz,if_pos (by simp; omega)]
  rw[iW hget,Ó (by omega) (by omega)];congr 2;rw[fY _ _ (by simp),fC,fe]
  have e:N-i=(N-(i+1))+1:=by omega
  rw[e,fN];simp
 ·try dsimp only
  unfold m8;rw[Ï,List.length_replicate,List.length_replicate,Í (decide_eq_false (by omega))];unfold wu;simp
def SQ {ρ:Type} (hS:g9 L N) {k:Nat} (hk:k<N) (k0:Unit→Option ρ) (k1:Int×List Int→Option ρ) (k2:Unit→Option ρ) :
 Ê (fun(v48:Int) kk50=>mZ ((k:Int)+1) L (Ù L) (N:Int) L (wu L N) v48 (fun u49=>kk50 u49) k0 k1 k2) (0:Int) =
  match L.find? (la L N k) with|some l=>k1 (0,nW L (exL L N l.1) (fun n=>ilt n 0) (k+1) l.1 0 [])|none=>k2 ():=by
 have hN:=hS.n60;have hl3:=hS.len;rw[RH];refine(jx L (la L N k) (fun j=>match L[j.toNat]? with|some l=>k1 (0,nW L (exL L N l.1) (fun n=>ilt n 0) (k+1) l.1 0 [])|none=>k2 ()) (k2 ()) (fun i l hi hl kn=>?_) (fun kn=>?_)).trans ?_
 ·try dsimp only
  unfold mZ;have hm:=List.mem_of_getElem? hl;have hr:=hS.inr l hm;have hmo:=hS.most l hm
  have hto:((l.1.toNat:Nat):Int)=l.1:=by omega
  have hg:(wu L N)[l.1.toNat]?=some (lG L N l.1 N):=by rw[ZO (by omega),hto]
  have hol:ò (wu L N)=(N:Int):=by simp[ò,wu]
  have hlim:=BS hS hr.1 k (by omega) l.2.1;rw[Ò hi,È hl,hol,Ž hr.1.1 hr.1.2,iW hg,show((k:Int)+1-1)=(k:Int) by omega,Ó (by omega) (by omega),È (F4 (by omega)),nS hr.2.1 (by rw[XA]; omega)];unfold la
  by_cases h1:gv (exL L N l.1 k) l.2.1=Ő
  ·rw[Ø (beq_iff_eq.2 h1),Ì hi (by omega),if_neg (by simp[h1])]
  ·have hb:=hlim h1;rw[Í (beq_eq_false_iff_ne.2 h1),Ó (by omega) (by omega)]
   by_cases h2:l.2.2+gv (exL L N l.1 k) l.2.1<0
   ·rw[Í (decide_eq_false (by omega)),Í (decide_eq_false (by omega)),Ž hr.1.1 hr.1.2,iW hg,if_pos (by simp[h1,h2]),afu,cP,hl];have hex:∀j,j<k+1→(lG L N l.1 N)[j]?=some (exL L N l.1 j):=fun j hj=>F4 (by omega)
    have hx:∀j,j<k+1→Lim 900000000000000000 (exL L N l.1 j)∧(exL L N l.1 j).length=N:=fun j hj=>⟨fun w hw=>by
     have:=BS hS hr.1 j (by omega) w hw; omega,XA _ _⟩
    have:=ag8 hS (fun n=>ilt n 0) (rest:=lG L N l.1 N) (R:=exL L N l.1) (k0:=k+1) (by omega) hex hx l.1 (fun z=>k1 (0,z));rw[show(((k+1:Nat):Int))=(k:Int)+1 by push_cast; rfl] at this;exact this
   ·rw[Ø (decide_eq_true (by omega)),Ì hi (by omega),if_neg (by simp[h1,h2])]
 ·try dsimp only
  unfold mZ;rw[à]
 ·cases h:L.findIdx? (la L N k) with
  |none=>rfl
  |some j=>dsimp only; rw[Int.toNat_natCast]
def aeg (hS:g9 L N) (hno:iq L N=false):∃(K:Nat) (l:Lk),K<N∧(∀k,k<K→∀x∈L,la L N k x=false)∧L.find? (la L N K)=some l∧ny ((N:Int),L)=some (nW L (exL L N l.1) (fun n=>ilt n 0) (K+1) l.1 0 [],0):=by
 have hN:=hS.n60;obtain⟨K0,hK0,l0,hl0,hb0⟩:=aa0 hS hno
 -- the first number of links
 have hex:∃K,K≤K0∧(∃l∈L,la L N K l=true)∧∀k,k<K→∀x∈L,la L N k x=false:=by
  have:∀n:Nat,(∀k,k<n→∀x∈L,la L N k x=false)∨∃K,K<n∧(∃l∈L,la L N K l=true)∧∀k,k<K→∀x∈L,la L N k x=false:=by
   intro n
   induction n with
   |zero=>exact .inl fun k hk=>by omega
   |succ n ih =>
    rcases ih with h|⟨K,h1,h2⟩
    ·by_cases hx:∃l∈L,la L N n l=true
     ·exact .inr ⟨n,by omega,hx,h⟩
     ·refine .inl fun k hk x hxm=>?_;rcases fQ (Nat.le_of_lt_succ hk) with h1|rfl
      ·exact h k h1 x hxm
      ·exact dN.2 fun e=>hx ⟨x,hxm,e⟩
    ·exact .inr ⟨K,by omega,h2⟩
  rcases this (K0+1) with h|⟨K,h1,h2,h3⟩
  ·have:=h K0 (by omega) l0 hl0;rw[hb0] at this; cases this
  ·exact⟨K,by omega,h2,h3⟩
 obtain⟨K,hK,⟨l1,hl1,hb1⟩,hfirst⟩:=hex
 obtain⟨l,hl⟩:∃l,L.find? (la L N K)=some l:=by
  cases h:L.find? (la L N K) with
  |none=>have:=dU.1 h l1 hl1; exact absurd hb1 this
  |some l=>exact⟨l,rfl⟩
 refine⟨K,l,by omega,hfirst,hl,?_⟩;unfold ny Dm;rw[jd hS,À,Í (by rfl),ud hS.links hS.n1 (by omega),À,if_neg (by simp[hno]),Í (by rfl),okN (by omega),Int.toNat_natCast];refine(VW hS _).trans ?_;refine Ę (fun v=>∃k:Nat,k≤K∧v=(k:Int)+1) (fun v=>(K+2)-v.toNat) ?_ ⟨0,by omega,rfl⟩;rintro v ⟨k,hk,rfl⟩;rcases Nat.lt_or_eq_of_le hk with h|rfl
 ·refine .inr ⟨((k+1:Nat):Int)+1,⟨k+1,h,rfl⟩,by omega,fun kn=>?_⟩;unfold qV;refine(SQ hS (by omega) _ _ _).trans ?_
  have hnone:L.find? (la L N k)=none:=dU.2 fun x hx=>by rw[hfirst k h x hx]; simp
  rw[hnone];dsimp only;rw[Ó (by omega) (by omega)];congr 1
 ·refine .inl fun kn=>?_;unfold qV;refine(SQ hS (by omega) _ _ _).trans ?_;rw[hl]
end
def abC (L:List Lk) (N:Nat):List (Int×Int):=(List.range N).map fun(n:Nat)=>(-(dst L N n 0),dst L N 0 n)
section
variable {L:List Lk} {N:Nat}
def ZS {n:Nat} (h:n<N):(abC L N)[n]?=some (-(dst L N n 0),dst L N 0 n):=by
 unfold abC;rw[List.getElem?_map,List.getElem?_range h];rfl
def afQ (hS:g9 L N) (ht:N0 L N) (ho:iq L N=true):tP ((N:Int),L)=some (abC L N,0):=by
 have hN:=hS.n60;have hN1:=hS.n1;unfold tP Ko;rw[Zy hS (fun n hn=>by simp at hn) (by simp),À,if_pos ho,Í (by rfl),L7 hS.links hS.n1 (by omega) ho ⟨by omega,by omega⟩,À,okN (by omega),Int.toNat_natCast];have hlen0:(ml L N 0).length=N:=jX 0;refine ĥ (List.replicate N ()) (fun i=>((List.range i).map fun(n:Nat)=>dst L N n 0)++List.replicate (N-i) (0:Int)) _ (by simp) (fun i a hi ha kn=>?_) (fun kn=>?_)
 ·try dsimp only
  unfold qU;rw[List.length_replicate] at hi;rw[Ï,List.length_replicate,Ø (decide_eq_true (by omega)),L7 hS.links hS.n1 (by omega) ho ⟨by omega,by omega⟩,À,nS (by omega) (by rw[jX]; simp; omega)]
  have hlen:(((List.range i).map fun(n:Nat)=>dst L N n 0)++List.replicate (N-i) (0:Int)).length=N:=by simp; omega
  rw[show ò (((List.range i).map fun(n:Nat)=>dst L N n 0)++List.replicate (N-i) (0:Int))=(N:Int) by unfold ò; rw[hlen],Ž (by omega) (by omega),Int.toNat_natCast]
  have hget:(((List.range i).map fun(n:Nat)=>dst L N n 0)++List.replicate (N-i) (0:Int))[i]?=some 0:=by
   rw[fD (by simp),gz,if_pos (by simp; omega)]
  rw[iW hget,Ó (by omega) (by omega)];congr 2;rw[fY _ _ (by simp),fC,fe]
  have e:N-i=(N-(i+1))+1:=by omega
  rw[e,fN];simp[dst]
 ·try dsimp only
  unfold qU;rw[Ï,List.length_replicate,List.length_replicate,Í (decide_eq_false (by omega))]
  have e0:((List.range N).map fun(n:Nat)=>dst L N n 0)++List.replicate (N-N) (0:Int)=(List.range N).map fun(n:Nat)=>dst L N n 0:=by simp
  rw[e0];refine ĥ (List.replicate N ()) (fun i=>(List.range i).map fun(n:Nat)=>(-(dst L N n 0),dst L N 0 n)) _ (by simp) (fun i a hi ha kn=>?_) (fun kn=>?_)
  ·try dsimp only
   unfold qT;rw[List.length_replicate] at hi
   have hget:((List.range N).map fun(n:Nat)=>dst L N n 0)[i]?=some (dst L N i 0):=by
    rw[eh,fO hi]; rfl
   have hb:=dst_bd hS ht ho (s:=(i:Int)) (t:=0) ⟨by omega,by omega⟩ ⟨by omega,by omega⟩;rw[Ï,hlen0,Ø (decide_eq_true (by omega)),show ò ((List.range N).map fun(n:Nat)=>dst L N n 0)=(N:Int) by simp[ò],Ž (by omega) (by omega),cP,iW hget,Ó (by omega) (by omega),nS (by omega) (by rw[hlen0]; simp; omega),ċ (Ú (by simp only[dv,fF,dA]; omega)),Ó (by omega) (by omega),Int.zero_sub];congr 2;rw[fC,fe];rfl
  ·try dsimp only
   unfold qT;rw[Ï,hlen0,List.length_replicate,Í (decide_eq_false (by omega))];rfl
end
abbrev nT (m:ř) (w:Way):Nat:=(Ô (trP m w)).length+1
abbrev sT (m:ř) (w:Way):List Lk:=Ř (trP m w)
def yl (L:List Lk) (N:Nat):List Int:=((ny ((N:Int),L)).getD ([],0)).1
def Vh {L:List Lk} {N:Nat} (hS:g9 L N) (hno:iq L N=false):ny ((N:Int),L)=some (yl L N,0)∧ŝ L (yl L N)=0∧(yl L N).length≤N:=by
 obtain⟨K,l,h1,_,h3,h4⟩:=aeg hS hno;obtain⟨q,q1,q2,_,q4,_⟩:=Vg hS h1 (eF h3) (fB h3)
 have e:yl L N=q:=by unfold yl; rw[h4,q1]; rfl
 rw[e];exact⟨by rw[h4,q1],q4,by omega⟩
section
variable {m:ř} {w:Way} {ρ:Type}
def Px (n:Nat):(((n:Int)+1,Ř (trP m w)):Sys)=(((n+1:Nat):Int),Ř (trP m w)):=by simp
def Pv (m:ř):List (List Int)×Int:=if Ĺ m≠0 then([],Ĺ m) else if jP m then([],5) else((ļ m.2).map fun w=>yl (sT m w) (nT m w),0)
def ZF (hs:In m.1) (hn:m.2.length≤1000):yc m=some (Pv m):=by
 unfold yc J5 Pv;rw[mC hs hn,À]
 by_cases hc:Ĺ m=0
 ·have h:=(Ō m).1 hc;have hl2:=qk h;have hm:((((m.1.1.1,m.1.1.2),m.1.2.1,m.1.2.2.1,m.1.2.2.2.1,m.1.2.2.2.2.1,m.1.2.2.2.2.2),m.2):ř)=m:=rfl;rw[Í (by simp[ine,hc]),if_neg (by simp[hc]),IR h,À];refine La (ļ m.2) (fun i=>((ļ m.2).take i).map fun w=>yl (sT m w) (nT m w)) _ (fun i=>∀w∈(ļ m.2).take i,kX m w=false) rfl (fun w hw=>by simp at hw) (fun i x hi hx hp kn=>?_) (fun hp kn=>?_)
  ·try dsimp only
   unfold qO;have hg:=rM h (oZ hx);rw[Ò hi,È hx,hm,jZ h (oZ hx),À,EC h (oZ hx),À];dsimp only;rw[Px]
   cases he:kX m x with
   |true =>
    refine .inl ?_;rw[aaL hg.sys he,À];have:jP m=true:=dc.2 ⟨x,cG hx,he⟩;rw[this]; rfl
   |false =>
    refine .inr ⟨fun w hw=>?_,?_⟩
    ·rw[take_succ hx] at hw;rcases cE.1 hw with hw|hw
     ·exact hp w hw
     ·rw[cI.1 hw]; exact he
    ·rw[(Vh hg.sys he).1,À,Í (by rfl),ċ (Ú (by simp; omega)),Ì hi (by omega),take_succ hx,fe]; rfl
  ·rw[fp] at hp
   try dsimp only
   unfold qO
   have:jP m=false:=dz.2 fun w hw=>by rw[show kX m w=false from hp w hw]; simp
   rw[à,fp,this]; rfl
 ·rw[Ø (by simp[ine,hc]),if_pos hc]
def vz (m:ř) (chains:List (List Int)):Bool:=(List.range (ļ m.2).length).all fun i=>match (ļ m.2)[i]?,chains[i]? with|some w,some c=>decide (ŝ (sT m w) c=0)|_,_=>false
def ic (m:ř) (chains:List (List Int)):Int:=if Ĺ m≠0 then Ĺ m else if chains.length≠(ļ m.2).length then 8 else if vz m chains then 0 else 8
def oK (hs:In m.1) (hn:m.2.length≤1000) (chains:List (List Int)):ū m chains=some (ic m chains):=by
 unfold ū rR ic;rw[mC hs hn,À]
 by_cases hc:Ĺ m=0
 ·have h:=(Ō m).1 hc;have hl2:=qk h;have hm:((((m.1.1.1,m.1.1.2),m.1.2.1,m.1.2.2.1,m.1.2.2.2.1,m.1.2.2.2.2.1,m.1.2.2.2.2.2),m.2):ř)=m:=rfl;rw[Í (by simp[ine,hc]),if_neg (by simp[hc]),IR h,À]
  by_cases hl:chains.length=(ļ m.2).length
  ·rw[Í (by simp[ine,Ï]; omega),if_neg (by simp[hl])];refine dS (YS (ļ m.2).length (fun i=>match (ļ m.2)[i]?,chains[i]? with|some w,some c=>decide (ŝ (sT m w) c=0)|_,_=>false) (some 8) (some 0) (fun i hi kn=>?_) (fun kn=>?_)) ?_
   ·have hx:(ļ m.2)[i]?=some (ļ m.2)[i]:=cw hi;have hx2:chains[i]?=some chains[i]:=cw (by omega)
    try dsimp only
    unfold iZ;rw[Ò hi,È hx,hm,jZ h (oZ hx),À,EC h (oZ hx),À,È hx2];dsimp only;rw[Px,N2 (rM h (oZ hx)).sys,À,hx,hx2,ć,Ì hi (by omega)];dsimp only
    by_cases he:ŝ (sT m (ļ m.2)[i]) chains[i]=0
    ·rw[if_neg (by simp[ine,he]),if_pos (by simpa using he)]
    ·rw[if_pos (by simp[ine,he]),if_neg (by simpa using he)]
   ·try dsimp only
    unfold iZ;rw[à]
   ·unfold vz
    cases(List.range (ļ m.2).length).all fun i=>match (ļ m.2)[i]?,chains[i]? with|some w,some c=>decide (ŝ (sT m w) c=0)|_,_=>false<;>rfl
  ·rw[Ø (by simp[ine,Ï]; omega),if_pos hl]
 ·rw[Ø (by simp[ine,hc]),if_pos hc]
def yx (m:ř) (w:Way) (x:List Int):Int:=if nB m w≠0 then nB m w else if (N1 (trP m w) x).1 then 0 else 8
def Ml (hs:In m.1) (hn:m.2.length≤1000) (hw:∀l∈w,l.length≤100000) (x:List Int):nw m w x=some (yx m w x):=by
 unfold nw xq yx;rw[EA hs hn hw,À]
 by_cases hc:nB m w=0
 ·obtain⟨h,ho⟩:=jY.1 hc;rw[Í (by simp[ine,hc]),if_neg (by simp[hc]),jZ h ho,À,ahF (ahD h ho).size (ahD h ho).num,À]
  cases(N1 (trP m w) x).1<;>rfl
 ·rw[Ø (by simp[ine,hc]),if_pos hc]
def Mj (m:ř) (w:Way):Bool×Int:=if nB m w≠0 then(false,nB m w) else(kX m w,0)
def X0 (hs:In m.1) (hn:m.2.length≤1000) (hw:∀l∈w,l.length≤100000):rC m w=some (Mj m w):=by
 unfold rC xl Mj;rw[EA hs hn hw,À]
 by_cases hc:nB m w=0
 ·obtain⟨h,ho⟩:=jY.1 hc;rw[Í (by simp[ine,hc]),if_neg (by simp[hc]),pS h ho]; rfl
 ·rw[Ø (by simp[ine,hc]),if_pos hc]
def Gl (m:ř) (w:Way):Ė×Int:=if nB m w≠0 then(adX,nB m w) else(trP m w,0)
def VC (hs:In m.1) (hn:m.2.length≤1000) (hw:∀l∈w,l.length≤100000):oC m w=some (Gl m w):=by
 unfold oC uz Gl;rw[EA hs hn hw,À]
 by_cases hc:nB m w=0
 ·obtain⟨h,ho⟩:=jY.1 hc;rw[Í (by simp[ine,hc]),if_neg (by simp[hc]),jZ h ho]; rfl
 ·rw[Ø (by simp[ine,hc]),if_pos hc]; rfl
def WhoP (m:ř) (w:Way) (x d:Int):Int×Int:=if nB m w≠0 then(0,nB m w) else if xX m.1 x d≠0 then(0,xX m.1 x d) else(jq m.2 w x d,0)
def ahA (hs:In m.1) (hn:m.2.length≤1000) (hw:∀l∈w,l.length≤100000) (x d:Int):RI m w x d=some (WhoP m w x d):=by
 unfold RI WG WhoP;rw[EA hs hn hw,À]
 by_cases hc:nB m w=0
 ·obtain⟨h,ho⟩:=jY.1 hc;rw[Í (by simp[ine,hc]),if_neg (by simp[hc]),Rs hs.size.gauges,À]
  by_cases hk:xX m.1 x d=0
  ·rw[Í (by simp[ine,hk]),if_neg (by simp[hk]),h.who ho]; rfl
  ·rw[Ø (by simp[ine,hk]),if_pos hk]
 ·rw[Ø (by simp[ine,hc]),if_pos hc]
def Ld (b:Ė) (n:Int×Int):(Int×Int)×Int:=if (zl b n).2≠0 then((0,0),(zl b n).2) else(ivR (zl b n).1 n,0)
def abw {b:Ė} (h:Room b) {n:Int×Int} (e:(zl b n).2=0):Room (zl b n).1∧ZG (zl b n).1 n:=by
 rcases abx e with⟨h1,h2⟩|⟨h1,h2,_⟩
 ·rw[h1];exact⟨h,(Ry h.good).1 h2⟩
 ·rw[h1];refine⟨⟨h2,?_,h.num⟩,acv n h2⟩;obtain⟨f,z,hh⟩:=(Ts h.good).1 h.op;exact(Ts h2).2 ⟨f,z,acw.2 hh⟩
def Lc {B:Ė} (h:Room B) {n:Int×Int} (hn:ZG B n) (K:(Int×Int)×Int→Option ρ) :
 (Ã (pR B n) fun r3=>Ã (gJ B) fun r4=>Ã (tP r4.1) fun r5=>ifb (ine r5.2 (0:Int)) (K (((0:Int),(0:Int)),r5.2)) (ĝ r5.1 r3.1 fun e6=>K (e6,(0:Int))))=K (ivR B n,0):=by
 have hI:In B:=⟨h.good.size,h.num⟩;have hi:=(Ry h.good).2 hn;have hr:=ag3 B n;have hsp:=afQ h.good.sys h.good.tied h.op;rw[Mi hI,À,Mh,if_neg (by simp[(ŋ _).2 h.good]),if_neg hi,VD hI,À,Sl,if_neg (by simp[(ŋ _).2 h.good])];dsimp only;rw[show((((Ô B).length:Int)+1,Ř B):Sys)=((((Ô B).length+1:Nat):Int),Ř B) by simp,hsp,À,Í (by rfl)];obtain⟨k,hk⟩:∃k:Nat,VO B n.1 n.2=k:=⟨(VO B n.1 n.2).toNat,by omega⟩;rw[hk,È (ZS (by omega))];unfold ivR dstR;rw[hk]
def acG {b:Ė} (h:Room b) (n:Int×Int):yV b n=some (Ld b n):=by
 have hI:In b:=⟨h.good.size,h.num⟩;have hc:=(ŋ _).2 h.good;unfold yV E7 Ld;rw[Mi hI,À]
 by_cases hi:VO b n.1 n.2=0
 ·have e1:(Mh b n).2=5:=by unfold Mh; rw[if_neg (by simp[hc]),if_pos hi]
  rw[Ø (by simp[ine,e1]),ahB hI,À,ahC,if_neg (by simp[hc])]
  by_cases h2:Ŏ (sd b n)=0
  ·have e:zl b n=(sd b n,0):=by unfold zl; rw[if_neg (by simp[hi]),if_neg (by simp[h2])]
   obtain⟨r1,r2⟩:=abw h (n:=n) (by rw[e]);rw[e] at r1 r2;rw[if_neg (by simp[h2]),Í (by rfl),Lc r1 r2,e,if_neg (by simp)]
  ·have e:zl b n=(adX,Ŏ (sd b n)):=by unfold zl; rw[if_neg (by simp[hi]),if_pos h2]
   rw[if_pos h2,Ø (by simp[ine,h2]),e,if_pos h2]
 ·have e1:(Mh b n).2=0:=by unfold Mh; rw[if_neg (by simp[hc]),if_neg hi]
  have e:zl b n=(b,0):=by unfold zl; rw[if_pos hi]
  rw[Í (by simp[ine,e1]),←Mi hI,Lc h ((Ry h.good).1 hi),e,if_neg (by simp)]
def ac2 {α β:Type} {f:α→Option β}:∀{l:List α} {i:Nat} {x:α} {e:β},l[i]?=some x→(∀w∈l.take i,f w=none)→f x=some e→l.findSome? f=some e
 |[],_,_,_,h,_,_=>by simp at h
 |y::l,0,x,e,h,_,he=>by simp at h; subst h; rw[gh,he]
 |y::l,i+1,x,e,h,hp,he=>by
  rw[gh,hp y (by simp)];exact ac2 (by simpa using h) (fun w hw=>hp w (by simp[hw])) he
abbrev Fnd:=List (Int×(Int×Int))
def hullP (s t:Int×Int):Int×Int:=(min s.1 t.1,max s.2 t.2)
def aha (m:ř) (label d:Int) (M:Fnd) (w:Way):Fnd :=
 Oz (k:=tI) (v:=Ä) (jq m.2 w label d) (match qt (k:=tI) (v:=Ä) (jq m.2 w label d) M with|some s=>hullP (Ld (trP m w) (jq m.2 w label d,d)).1 s|none=>(Ld (trP m w) (jq m.2 w label d,d)).1) M
def Eb (m:ř) (label d:Int) (l:List Way):Fnd:=l.foldl (aha m label d) []
def aep (m:ř) (label d:Int) (w:Way):Int:=(Ld (trP m w) (jq m.2 w label d,d)).2
def X3 (m:ř) (label d:Int):List (Int×Int×Int)×Int :=
 if Ĺ m≠0 then([],Ĺ m) else if xX m.1 label d≠0 then([],xX m.1 label d) else if kQ m=[] then([],5) else
 match (kQ m).findSome? fun w=>aaC (aep m label d w) with
 |some e=>([],e)
 |none=>(m.1.2.1.filterMap fun g=>(qt (k:=tI) (v:=Ä) g.1 (Eb m label d (kQ m))).map fun s=>(g.1,s),0)
def RA (hw:w∈kQ m):ő m.2 w∧kX m w=true:=by
 obtain⟨h1,h2⟩:=dL.1 hw;exact⟨wn.1 h1,h2⟩
def afd (h:MOk m):(kQ m).length≤150:=cR (dV _ _) (qk h)
def agJ (h:MOk m) (hw:ő m.2 w) (he:kX m w=true):Room (trP m w):=⟨rM h hw,he,h.in_.num⟩
def aee (hs:In m.1) (hn:m.2.length≤1000) (label d:Int):yW m label d=some (X3 m label d):=by
 unfold yW Fl X3;rw[mC hs hn,À]
 by_cases hc:Ĺ m=0
 ·have h:=(Ō m).1 hc;have hG:=hs.size.gauges;have hgl:=afd h;rw[Í (by simp[ine,hc]),if_neg (by simp[hc]),Rs hG,À]
  by_cases hk:xX m.1 label d=0
  ·rw[Í (by simp[ine,hk]),if_neg (by simp[hk]),acT h,À]
   by_cases hnil:kQ m=[]
   ·rw[Ø (by simp[ieq,Ï,hnil]),if_pos hnil]
   ·have:(kQ m).length≠0:=fun e=>hnil (cN.1 e);rw[Í (by simp[ieq,Ï,hnil]),if_neg hnil];have key:∀(l:List Way),(∀w∈l,aaC (aep m label d w)=none)→l.findSome? (fun w=>aaC (aep m label d w))=none:=fun l hl=>List.findSome?_eq_none_iff.2 hl;refine La (kQ m) (fun i=>Eb m label d ((kQ m).take i)) _ (fun i=>∀w∈(kQ m).take i,aaC (aep m label d w)=none) rfl (fun w hw=>by simp at hw) (fun i x hi hx hp kn=>?_) (fun hp kn=>?_)
    ·obtain⟨x1,x2⟩:=RA (cG hx);have hroom:=agJ h x1 x2
     try dsimp only
     unfold ov;rw[Ò hi,È hx,show((((m.1.1.1,m.1.1.2),m.1.2.1,m.1.2.2.1,m.1.2.2.2.1,m.1.2.2.2.2.1,m.1.2.2.2.2.2),m.2):ř)=m from rfl,h.who x1,À,jZ h x1,À,acG hroom,À]
     by_cases he:aep m label d x=0
     ·refine .inr ⟨fun w hw=>?_,?_⟩
      ·rw[take_succ hx] at hw;rcases cE.1 hw with hw|hw
       ·exact hp w hw
       ·rw[cI.1 hw,he]; rfl
      ·unfold aep at he
       have hst:Eb m label d ((kQ m).take (i+1))=aha m label d (Eb m label d ((kQ m).take i)) x:=by rw[take_succ hx,Eb,List.foldl_append]; rfl
       rw[Í (by simp[ine,he]),hst];unfold aha Mn
       cases qt (k:=tI) (v:=Ä) (jq m.2 x label d) (Eb m label d ((kQ m).take i)) with
       |none=>dsimp only; rw[Ì hi (by omega)]
       |some s =>
        dsimp only;rw[Ì hi (by omega),Xq,acP]; rfl
     ·refine .inl ?_
      have hfs:(kQ m).findSome? (fun w=>aaC (aep m label d w))=some (aep m label d x):=by
       exact ac2 hx hp (by simp[aaC,he])
      rw[hfs];unfold aep at he ⊢;rw[Ø (by simp[ine,he])]
    ·rw[fp] at hp
     try dsimp only
     unfold ov;rw[à,key _ hp,List.take_length];dsimp only;refine ĥ m.1.2.1 (fun i=>(m.1.2.1.take i).filterMap fun g=>(qt (k:=tI) (v:=Ä) g.1 (Eb m label d (kQ m))).map fun s=>(g.1,s)) _ rfl (fun i g hi hg kn'=>?_) (fun kn'=>?_)
     ·try dsimp only
      unfold ou;have hle:((m.1.2.1.take i).filterMap fun g=>(qt (k:=tI) (v:=Ä) g.1 (Eb m label d (kQ m))).map fun s=>(g.1,s)).length≤1000:=Nat.le_trans (List.length_filterMap_le _ _) (by rw[List.length_take]; omega);rw[Ò hi,È hg,take_succ hg,List.filterMap_append];unfold Mn
      cases hmg:qt (k:=tI) (v:=Ä) g.1 (Eb m label d (kQ m)) with
      |none=>simp only[List.filterMap_cons,hmg,Option.map_none,List.filterMap_nil,cW]; rw[Ì hi (by omega)]
      |some s =>
       simp only[List.filterMap_cons,hmg,dE,List.filterMap_nil];rw[ċ (Ú (by rw[dA]; omega)),Ì hi (by omega)]
     ·try dsimp only
      unfold ou;rw[à,List.take_length]
  ·rw[Ø (by simp[ine,hk]),if_pos hk]
 ·rw[Ø (by simp[ine,hc]),if_pos hc]
end
def acp {ρ α:Type} [DecidableEq α] {l m:List α} (hl:l.length=m.length) (K:Bool→Option ρ) {f:Int→(Int→Option ρ)→Option ρ}
 (h:∀(i:Nat) (a b:α),i<l.length→l[i]?=some a→m[i]?=some b→∀kn,f i kn=if a=b then kn ((i:Int)+1) else K false) (hn:∀kn,f l.length kn=K true):Ê f 0=K (decide (l=m)):=by
 refine dS (mc l (fun i a=>if m[i]?=some a then none else some false) K (K true) (fun i a hi ha kn=>?_) hn) ?_
 ·have hm:m[i]?=some m[i]:=cw (by omega);rw[h i a _ hi ha hm,hm]
  by_cases he:a=m[i]
  ·simp[he]
  ·have:¬m[i]=a:=fun e=>he e.symm;simp[he,this]
 ·cases h:ł (fun i a=>if m[i]?=some a then none else some false) 0 l with
  |none=>simp[SU hl h]
  |some b =>
   obtain⟨h1,h2⟩:=SS h;simp[h1,h2]
def aa2 {a b:Way} (hn:a.length≤1000000) (hl:∀l∈a,l.length≤1000000):rD a b=some (decide (a=b)):=by
 unfold rD xw;rw[Ï,Ï]
 by_cases he:a.length=b.length
 ·rw[Í (by simp[ine,he])];refine acp he some (fun i x y hi hx hy kn=>?_) (fun kn=>?_)
  ·try dsimp only
   unfold kK;rw[Ò hi,È hx,È hy,Mg (hl x (List.mem_of_getElem? hx)),À,Ì hi (by omega),ć]
   by_cases h:x=y<;>simp[h]
  ·try dsimp only
   unfold kK;rw[à]
 ·rw[Ø (by simp[ine]; omega)];have:a≠b:=fun e=>he (by rw[e]);simp[this]
def adz {L:List Lk} {p:Int→Int} (hp:Pot L p) (c:List Int):ŝ L c≠0:=by
 unfold ŝ
 by_cases h2:kP L c=0
 case neg=>rw[if_pos h2]; exact h2
 rw[if_neg (by simp[h2])];have hi:=(Xt h2).2
 cases c with
 |nil=>exact(by decide:(8:Int)≠0)
 |cons i t =>
  dsimp only;unfold Zj
  split
  ·rename_i h3;have:=Ya hp (i::t) (L[i.toNat]?.getD (0,0,0)).1 0 hi h3.1;rw[h3.2.1] at this;have:=h3.2.2;omega
  ·decide
def ady {m:ř} {w:Way} (h:MOk m) (hw:ő m.2 w) {c:List Int} (hc:ŝ (sT m w) c=0):kX m w=false:=by
 rw[dN];intro he;have hg:=rM h hw;have hn:=hg.sys.n60;obtain⟨p,hp⟩:=(Η hg.sys.links (by omega)).1 he;exact adz hp c hc
def S7 {m:ř} (h:MOk m) {chains:List (List Int)} (hc:vz m chains=true):∀w∈ļ m.2,kX m w=false:=by
 intro w hw;obtain⟨i,hi,rfl⟩:=cM.1 hw;have:=cX.1 hc i (fX.2 hi);rw[cw hi] at this
 cases hx:chains[i]? with
 |none=>rw[hx] at this; cases this
 |some c =>
  rw[hx] at this;exact ady h (wn.1 hw) (of_decide_eq_true this)
def Gx {m:ř} (h:MOk m) (hs:jP m=false):vz m ((ļ m.2).map fun w=>yl (sT m w) (nT m w))=true:=by
 refine cX.2 fun i hi=>?_;rw[fX] at hi;have hx:(ļ m.2)[i]?=some (ļ m.2)[i]:=cw hi;have hw:(ļ m.2)[i]∈ļ m.2:=eT hi;rw[eh,hx];have he:=dz.1 hs _ hw;exact decide_eq_true (Vh (rM h (wn.1 hw)).sys (dN.2 he)).2.1
def exM (l:List Cmp):ř:=(((0,2),[(1,0,1000,(-5,5),(1,10),1),(2,0,1000,(-50,50),(1,4),0),(3,0,1100,(-1,1),(0,1),0)],[(1,10)],[(1,(20,29),3)],(7,10,[1],[2],-20,1,100,200)::l,[]),[(12,[2,3])])
def ex8:Cmp:=(8,15,[2],[1],100,1,0,0)
def ex9:Cmp:=(9,15,[3],[],1100,0,0,0)
def ac8 {l:List Cmp} (hl:l.length≤10) (hp:∀c∈l,c.2.2.1.length≤10∧c.2.2.2.1.length≤10):In (exM l).1:=by
 refine⟨⟨by simp[exM],by simp[exM],by simp[exM],by simp[exM]; omega,by simp[exM],fun c hc=>?_⟩,fun g hg=>?_⟩
 ·rcases cF.1 (show c∈(7,10,[1],[2],-20,1,100,200)::l from hc) with rfl|hc
  ·exact⟨by decide,by decide⟩
  ·have:=hp c hc; omega
 ·simp only[exM,cF,f9,or_false] at hg
  rcases hg with rfl|rfl|rfl<;>exact⟨by decide,by decide⟩
def w0:Ĺ (exM [])=0∧Ĺ (exM [ex8])=0∧Ĺ (exM [ex8,ex9])=0:=by decide +kernel
def w1:ļ (exM []).2=[[[2,3]],[[3,2]]]:=by decide +kernel
def w2:kQ (exM [])=[[[2,3]],[[3,2]]]:=by decide +kernel
def w3:Le (exM [ex8])=([[3,2]],0):=by decide +kernel
def w4:X3 (exM [ex8]) 2 15=([(3,1099,1101)],0):=by decide +kernel
def w5:ahH (exM [ex8,ex9])=([8,9],0):=by decide +kernel
def w6:ad9 (exM [ex8,ex9]) [7,8,9]=([8,9],0):=by decide +kernel
def w7:Gj (exM [ex8,ex9]) 2=(false,0):=by decide +kernel
def w8:jP (exM [ex8,ex9])=false:=by decide +kernel
def w9:WhoP (exM [ex8,ex9]) [[3,2]] 2 13=(3,0):=by decide +kernel
def ZV:iP=some true:=by
 have i0:In (exM []).1:=ac8 (by decide) (by simp);have i1:In (exM [ex8]).1:=ac8 (by decide) (by decide);have i2:In (exM [ex8,ex9]).1:=ac8 (by decide) (by decide)
 have n:∀l,(exM l).2.length≤1000:=fun l=>by simp[exM]
 have h0:=(Ō _).1 w0.1;have h2:=(Ō _).1 w0.2.2;have e0:ũ []=some (exM []):=rfl;have e1:ũ [((8:Int),(15:Int),[(2:Int)],[(1:Int)],(100:Int),(1:Int),(0:Int),(0:Int))]=some (exM [ex8]):=rfl;have e2:ũ [((8:Int),(15:Int),[(2:Int)],[(1:Int)],(100:Int),(1:Int),(0:Int),(0:Int)),((9:Int),(15:Int),[(3:Int)],[],(1100:Int),(0:Int),(0:Int),(0:Int))]=some (exM [ex8,ex9]):=rfl
 have hp:Pv (exM [ex8,ex9])=((ļ (exM [ex8,ex9]).2).map (fun w=>yl (sT (exM [ex8,ex9]) w) (nT (exM [ex8,ex9]) w)),0):=by
  unfold Pv; rw[if_neg (by simp[w0.2.2]),w8]; rfl
 have c1:ic (exM [ex8,ex9]) ((ļ (exM [ex8,ex9]).2).map fun w=>yl (sT (exM [ex8,ex9]) w) (nT (exM [ex8,ex9]) w))=0:=by
  unfold ic;rw[if_neg (by simp[w0.2.2]),if_neg (by simp),Gx h2 w8]; rfl
 have c2:∀c,ic (exM []) c=8:=fun c=>by
  unfold ic;rw[if_neg (by simp[w0.1])]
  split
  ·rfl
  ·rw[if_neg];intro hc;have:=S7 h0 hc [[2,3]] (by rw[w1]; simp)
   have h3:[[2,3]]∈kQ (exM []):=by rw[w2]; simp
   rw[(RA h3).2] at this;cases this
 unfold iP Bc;rw[e0,À,ad8 i0 (n _),À,if_neg (by simp[w0.1]),À,agp i0 (n _),À,if_neg (by simp[w0.1]),e1,À,VE i1 (n _),À,À,aee i1 (n _),À,e2,À,ahG i2 (n _),À,XX i2 (n _) (by simp),À,VB i2 (n _),À,w1,w2,w3,w4,w5,w6,w7];rw[ZF i2 (n _),À,hp,Í (by rfl),Í (by rfl),Í (by rfl),Í (by rfl),Í (by rfl),Í (by rfl),Í (by rfl),Í (by simp[ine,Ï]),Í (by simp[ine,Ï]),Í (by rfl)];rw[show ∀f:Way→Option Bool,ĝ [[[2,3]],[[3,2]]] (1:Int) f=f [[3,2]] from fun f=>rfl];dsimp only;rw[ahA i2 (n _) (by decide),À,w9,Í (by rfl),Í (by rfl),Í (by rfl),oK i2 (n _),À,c1,Í (by rfl),À,oK i0 (n _),À,c2,Í (by rfl)];rw[aa2 (by decide) (by decide),À,Ø (by rfl),Ø (by simp[ieq,Ï])];rw[show ∀f:Int×Int×Int→Option Bool,ĝ [((3:Int),(1099:Int),(1101:Int))] (0:Int) f=f (3,1099,1101) from fun f=>rfl];dsimp only;rw[Ø (by rfl),Mg (by decide),À,Ø (by rfl),À];rfl
def acq {ρ α:Type} (l:List α) (K:Option ρ) {f:Int→(Int→Option ρ)→Option ρ} (h:∀(i:Nat) (a:α),i<l.length→l[i]?=some a→∀kn,f i kn=kn ((i:Int)+1)) (hn:∀kn,f l.length kn=K):Ê f 0=K:=by
 refine dS (jx l (fun _=>false) (fun _=>K) K (fun i a hi ha kn=>by rw[h i a hi ha kn]; rfl) hn) ?_;rw[dB.2 (by simp)]
def bigP (c:Cmp):Bool:=decide (9<c.2.2.1.length)||decide (9<c.2.2.2.1.length)
def I1 (m:ř):Bool:=decide (m.1.2.1.length≤6)&&(decide (m.1.2.2.1.length≤20)&&(decide (m.1.2.2.2.1.length≤6)&&(decide (m.1.2.2.2.2.1.length≤8)&&(decide (m.1.2.2.2.2.2.length≤6)&&decide (m.2.length≤6)))))
def SN (m:ř):Bool:=!((m.1.2.2.2.2.1.take 60).any bigP)&&(!((m.2.take 8).any fun x=>decide (9<x.2.length))&&I1 m)
def abD (m:ř):yS m=some (SN m):=by
 unfold yS EY
 have last:(ifb (ile (Ù m.1.2.1) (6:Int)) (ifb (ile (Ù m.1.2.2.1) (20:Int)) (ifb (ile (Ù m.1.2.2.2.1) (6:Int)) (ifb (ile (Ù m.1.2.2.2.2.1) (8:Int)) (ifb (ile (Ù m.1.2.2.2.2.2) (6:Int)) (some (ile (Ù m.2) (6:Int))) (some false)) (some false)) (some false)) (some false)) (some false))=some (I1 m):=by
  have e:∀(n m:Nat),ile (n:Int) (m:Int)=decide (n≤m):=fun n m=>by simp[ile]
  unfold I1;rw[Ï,Ï,Ï,Ï,Ï,Ï,show(6:Int)=((6:Nat):Int) from rfl,show(20:Int)=((20:Nat):Int) from rfl,show(8:Int)=((8:Nat):Int) from rfl,e,e,e,e,e,e];generalize decide (m.1.2.1.length≤6)=x1;generalize decide (m.1.2.2.1.length≤20)=x2;generalize decide (m.1.2.2.2.1.length≤6)=x3;generalize decide (m.1.2.2.2.2.1.length≤8)=x4;generalize decide (m.1.2.2.2.2.2.length≤6)=x5
  cases x1<;>cases x2<;>cases x3<;>cases x4<;>cases x5<;>rfl
 rw[last];refine dS (ĵ (m.1.2.2.2.2.1.take 60) bigP (fun _=>some false) (some false) (some (!((m.2.take 8).any fun x=>decide (9<x.2.length))&&I1 m)) (fun _=>rfl) (fun i c hi hc kn=>?_) (fun kn=>?_)) ?_
 ·try dsimp only
  unfold oi;rw[List.length_take] at hi
  have hc':m.1.2.2.2.2.1[i]?=some c:=by rw[dF] at hc; split at hc<;>simp_all
  rw[Ò (show i<m.1.2.2.2.2.1.length by omega),Ø (by simp[ilt]; omega),È hc',È hc',Ó (by omega) (by omega),ć,Ï,Ï];unfold bigP
  by_cases h1:9<c.2.2.1.length
  ·rw[if_pos (by simp[igt]; omega),if_pos (by simp[h1])]
  ·rw[if_neg (by simp[igt]; omega),ć]
   by_cases h2:9<c.2.2.2.1.length
   ·rw[if_pos (by simp[igt]; omega),if_pos (by simp[h2])]
   ·rw[if_neg (by simp[igt]; omega),if_neg (by simp[h1,h2])]
 ·refine dS ?_ (dS (ĵ (m.2.take 8) (fun x=>decide (9<x.2.length)) (fun _=>some false) (some false) (some (I1 m)) (f:=fun v kk=>kv m.2 v (fun u=>kk u) (fun z=>some z) (fun _=>some (I1 m))) (fun _=>rfl) (fun i x hi hx kn'=>?_) (fun kn'=>?_)) ?_)
  ·try dsimp only
   unfold oi;rw[List.length_take,ć]
   split
   ·rename_i h
    have h':60<m.1.2.2.2.2.1.length:=by rw[Ï] at h; simp[ilt] at h; omega
    rw[Í (by simp[ilt]; omega)]
   ·rfl
  ·try dsimp only
   unfold kv;rw[List.length_take] at hi
   have hx':m.2[i]?=some x:=by rw[dF] at hx; split at hx<;>simp_all
   rw[Ò (show i<m.2.length by omega),Ø (by simp[ilt]; omega),È hx',Ó (by omega) (by omega),ć,Ï]
   by_cases h1:9<x.2.length
   ·rw[if_pos (by simp[igt]; omega),if_pos (by simp[h1])]
   ·rw[if_neg (by simp[igt]; omega),if_neg (by simp[h1])]
  ·try dsimp only
   unfold kv;rw[List.length_take,ć]
   split
   ·rename_i h
    have h':8<m.2.length:=by rw[Ï] at h; simp[ilt] at h; omega
    rw[Í (by simp[ilt]; omega)]
   ·rfl
  ·cases List.any (List.take 8 m.2) (fun x=>decide (9<x.2.length))<;>rfl
 ·unfold SN
  cases List.any (List.take 60 m.1.2.2.2.2.1) bigP<;>rfl
structure Small7 (m:ř):Prop where
 inn:In m.1
 n6:m.2.length≤6
 l9:∀x∈m.2,x.2.length≤9
 c8:m.1.2.2.2.2.1.length≤8
def abE {m:ř} (h:SN m=true) (hn:∀g∈m.1.2.1,I64 g.2.2.2.2.1.1):Small7 m:=by
 simp only[SN,I1,cA,dR,decide_eq_true_eq] at h;obtain⟨h0,h1,h2,h3,h4,h5,h6,h7⟩:=h;refine⟨⟨⟨by omega,by omega,by omega,by omega,by omega,fun c hc=>?_⟩,hn⟩,h7,fun x hx=>?_,h5⟩
 ·rw[dT (by omega)] at h0;have:=dz.1 h0 c hc;simp[bigP] at this;omega
 ·rw[dT (by omega)] at h1;have:=dz.1 h1 x hx;simp at this;omega
def aeL (w:Way) (n:Int) (hn:0≤n∧n≤100000):yT w n=some (decide ((w.length:Int)≤n)&&!w.any fun l=>decide (100<l.length)):=by
 unfold yT EZ
 by_cases h:(w.length:Int)≤n
 ·rw[Í (by simp[igt,Ï]; omega)];refine dS (ĵ w (fun l=>decide (100<l.length)) (fun _=>some false) (some false) (some true) (fun _=>rfl) (fun i l hi hl kn=>?_) (fun kn=>?_)) ?_
  ·try dsimp only
   unfold oj;rw[Ò hi,È hl,Ì hi (by omega),ć,Ï]
   by_cases h1:100<l.length
   ·rw[if_pos (by simp[igt]; omega),if_pos (by simp[h1])]
   ·rw[if_neg (by simp[igt]; omega),if_neg (by simp[h1])]
  ·try dsimp only
   unfold oj;rw[à]
  ·rw[decide_eq_true h]
   cases w.any fun l=>decide (100<l.length)<;>rfl
 ·rw[Ø (by simp[igt,Ï]; omega),decide_eq_false h]; rfl
def IU {m:ř} (h:MOk m) {w:Way} (hw:ő m.2 w):∀l∈w,l.length≤100000:=by
 intro l hl;obtain⟨i,hi,rfl⟩:=cM.1 hl;obtain⟨x,hx⟩:∃x,m.2[i]?=some x:=⟨_,cw (by rw[←hw.len]; exact hi)⟩;obtain⟨l',h1,h2⟩:=hw.at hx;rw[cw hi] at h1;cases h1;have:=h.len5 x (cG hx);rw[h2.length_eq]; omega
def aax {b:Ė} (h:ż b) (ho:iq (Ř b) ((Ô b).length+1)=true):N1 b ((ml (Ř b) ((Ô b).length+1) 0).drop 1)=(true,0):=by
 have hsy:=h.sys;have hn:=hsy.n60;obtain⟨p,hp⟩:=(Η hsy.links (by omega)).1 ho;exact adf h (jX 0) (XT hsy ho (by omega) (by omega)) (ahi hsy h.tied ho ⟨by omega,by omega⟩)
def U7 {m:ř} (hn:∀g∈m.1.2.1,I64 g.2.2.2.2.1.1) (chains:List (List Int)) (x:List Int):nX m chains x=some true:=by
 unfold nX nF;rw[abD,À,ZV]
 by_cases hs:SN m=true
 case neg=>rw[dN.2 hs]; rfl
 have h7:=abE hs hn;have hl6:=h7.n6;rw[hs,Í (by rfl),aeL _ _ (by omega),À]
 by_cases hp:(decide ((chains.length:Int)≤160)&&!chains.any fun l=>decide (100<l.length))=true
 case neg=>rw[dN.2 hp]; rfl
 rw[hp,Í (by rfl)]
 by_cases hx:(70:Int)<Ù x
 case pos=>rw[Ø (by simpa[igt] using hx)]; rfl
 rw[Í (by simpa[igt] using hx),agp h7.inn (by omega),À]
 by_cases hc:Ĺ m=0
 case neg=>rw[if_pos hc,Ø (by simp[ine,hc])]; rfl
 have h:=(Ō m).1 hc;have hl2:=qk h;have hm:((((m.1.1.1,m.1.1.2),m.1.2.1,m.1.2.2.1,m.1.2.2.2.1,m.1.2.2.2.2.1,m.1.2.2.2.2.2),m.2):ř)=m:=rfl
 have hL:Le m=if jP m then((pN m).1,0) else([],5):=by unfold Le; rw[if_neg (by simp[hc])]
 have hP:Pv m=if jP m then([],5) else((ļ m.2).map fun w=>yl (sT m w) (nT m w),0):=by unfold Pv; rw[if_neg (by simp[hc])]
 rw[if_neg (by simp[hc]),Í (by rfl),VE h7.inn (by omega),À,ZF h7.inn (by omega),À,hL,hP];simp only[ae4]
 -- the rounds
 have rounds:Ê (fun(v34:Int) kk36=>Ħ x (ļ m.2) m.1.1.1 m.1.1.2 m.1.2.1 m.1.2.2.1 m.1.2.2.2.1 m.1.2.2.2.2.1 m.1.2.2.2.2.2 m.2 v34 (fun u35=>kk36 u35) (fun z31=>some z31) (fun _=>Ã (some true) fun r33=>some r33)) (0:Int)=some true:=by
  refine acq (ļ m.2) _ (fun i w hi hw kn=>?_) (fun kn=>?_)
  ·have ho:=oZ hw;have hsh:=IU h ho;have hask:nB m w=0:=jY.2 ⟨h,ho⟩
   try dsimp only
   unfold Ħ;rw[Ò hi,È hw,hm,X0 h7.inn (by omega) hsh,À,Mj,if_neg (by simp[hask]),Í (by rfl),È hw,Ml h7.inn (by omega) hsh,À,Ì hi (by omega),ć]
   split
   ·rename_i h0
    have h0:yx m w x=0:=by simpa[ieq] using h0
    rw[yx,if_neg (by simp[hask])] at h0;have hg:=rM h ho
    have:kX m w=true:=by
     cases hf:(N1 (trP m w) x).1 with
     |false=>rw[hf] at h0; exact absurd h0 (by decide)
     |true =>
      refine ac1 hg (x:=x) ?_;unfold N1 at hf;rw[if_neg (by simp[(ŋ _).2 hg])] at hf
      split at hf
      ·exact hf
      ·cases hf
    rw[this]; rfl
   ·rfl
  ·try dsimp only
   unfold Ħ;rw[à]; rfl
 have hchk:ic m chains=0→jP m=false:=fun e=>by
  unfold ic at e;rw[if_neg (by simp[hc])] at e
  split at e
  ·exact absurd e (by decide)
  split at e
  ·rename_i h2;refine dz.2 fun w hw=>?_;rw[show kX m w=false from S7 h h2 w hw]; simp
  ·exact absurd e (by decide)
 have lenG:((kQ m).length:Int)=0↔jP m=false:=by
  rw[←acU,←cN]; omega
 have last:(Ã (ū m chains) fun r21=>ifb (ieq r21 (0:Int)) (ifb (igt (Ù (kQ m)) (0:Int)) (some false) (Ã (vr m) fun r24=>ifb (ine r24.2 (0:Int)) (some false) (Ê (fun(v34:Int) kk36=>Ħ x r24.1 m.1.1.1 m.1.1.2 m.1.2.1 m.1.2.2.1 m.1.2.2.2.1 m.1.2.2.2.2.1 m.1.2.2.2.2.2 m.2 v34 (fun u35=>kk36 u35) (fun z31=>some z31) (fun _=>Ã (some true) fun r33=>some r33)) (0:Int)))) (Ã (vr m) fun r24=>ifb (ine r24.2 (0:Int)) (some false) (Ê (fun(v34:Int) kk36=>Ħ x r24.1 m.1.1.1 m.1.1.2 m.1.2.1 m.1.2.2.1 m.1.2.2.2.1 m.1.2.2.2.2.1 m.1.2.2.2.2.2 m.2 v34 (fun u35=>kk36 u35) (fun z31=>some z31) (fun _=>Ã (some true) fun r33=>some r33)) (0:Int))))=some true:=by
  rw[oK h7.inn (by omega),À,ad8 h7.inn (by omega),À,if_neg (by simp[hc])];dsimp only;rw[show ine (0:Int) 0=false from rfl,é,rounds,ć]
  split
  ·rename_i h0;have:=lenG.2 (hchk (by simpa[ieq] using h0));rw[Ï,this]; rfl
  ·rfl
 cases hso:jP m with
 |true =>
  obtain⟨h1,h2⟩:=RA (aay (by rw[pM]; exact hso));have hg:=rM h h1
  have hgt:igt (Ù (kQ m)) 0=true:=by
   have:(kQ m).length≠0:=fun e=>by have:=lenG.1 (by omega); rw[hso] at this; cases this
   rw[Ï]; simp[igt]; omega
  have hsy:=hg.sys;have hgr:=XZ hsy hg.tied;rw[show iq (Ř (trP m (pN m).1)) ((Ô (trP m (pN m).1)).length+1)=true from h2,if_pos rfl] at hgr;rw[if_pos rfl,if_pos rfl,hgt];dsimp only;rw[Í (by rfl),Í (by rfl),Í (by rfl),Ø (by rfl),Í (by rfl),Ø (by rfl),hm,VC h7.inn (by omega) (IU h h1),À,Gl,if_neg (by simp[jY.2 ⟨h,h1⟩])];dsimp only;rw[EC h h1,À];dsimp only;rw[Px,hgr,À,Í (by rfl),Í (by rfl),Í (by rfl)];have hbl:(ml (Ř (trP m (pN m).1)) ((Ô (trP m (pN m).1)).length+1) 0).length=(Ô (trP m (pN m).1)).length+1:=jX 0;rw[Í (by rw[Ï,hbl]; simp[ieq]; omega),ċ (by simp[ile,ò,hbl]; omega),Ml h7.inn (by omega) (IU h h1),À,yx,if_neg (by simp[jY.2 ⟨h,h1⟩]),aax hg h2,Í (by rfl),Í (by rfl)];rw[hgt] at last;exact last
 |false =>
  have hgt:igt (Ù (kQ m)) 0=false:=by
   have:=lenG.2 hso;rw[Ï,this]; rfl
  rw[if_neg (show ¬(false=true) by simp),if_neg (show ¬(false=true) by simp),hgt];dsimp only;rw[Í (by rfl),Í (by rfl),Ø (by rfl),Í (by rfl),Í (by rfl),Í (by rfl),Ø (by rfl),hm,oK h7.inn (by omega),À,ic,if_neg (by simp[hc]),if_neg (by simp),Gx h hso,Í (by rfl)];rw[hgt] at last;exact last
end Go.Proofs.ZzM
end
