/- lemmas -/
import Derived.Test.YtdmegkgjpgcfgaaGreatPlA
import Derived.Test.YtdmegkgjpgcfgaaGreatMdTA
set_option linter.all false
set_option linter.unusedSectionVars false
set_option linter.unusedVariables false
set_option linter.unusedSimpArgs false
noncomputable section
namespace Go.Proofs.ZzM
open Go Go.Am
section
variable {b:Ď}
def ahM:off b b.2.1.length=(É b).length:=by unfold off É; rw[List.take_length]
def afC:∀n,n≤b.2.1.length→∀j,j<off b n→∃(i:Nat) (g:ÿ) (k:Nat),b.2.1[i]?=some g∧k<(ã b g).length∧j=off b i+k:=by
 intro n
 induction n with
 |zero=>intro _ j hj; simp[off] at hj
 |succ n ih =>
  intro hn j hj;have hg:b.2.1[n]?=some b.2.1[n]:=cw (by omega);rw[afB hg] at hj
  by_cases h:j<off b n
  ·exact ih (by omega) j h
  ·exact⟨n,_,j-off b n,hg,by omega,by omega⟩
def OM {v:Int} (h0:1≤v) (h1:v<((É b).length+1:Nat)):∃(i:Nat) (g:ÿ) (k:Nat),b.2.1[i]?=some g∧k<(ã b g).length∧v=(off b i:Int)+k+1:=by
 obtain⟨i,g,k,h2,h3,h4⟩:=afC (b:=b) b.2.1.length (cz _) (v-1).toNat (by rw[ahM]; omega);exact⟨i,g,k,h2,h3,by omega⟩
def GL (b:Ď) (L:List Lk):Prop:=∀(i:Nat) (g:ÿ),b.2.1[i]?=some g→∀l∈Ő b g,l∈L
def IQ:GL b (ķ b):=fun i g hg l hl=>o9.2 (.inl ⟨i,g,hg,hl⟩)
def ab6 {L:List Lk} (h:ū b) (hL:GL b L) {v:Int} (h0:0≤v) (h1:v<((É b).length+1:Nat)):∃vs d,Wl L (fun u=>u=0) vs v d∧d≤4503599627370496:=by
 by_cases hv:v=0
 ·exact⟨[],0,.nil hv,by omega⟩
 obtain⟨i,g,k,hg,hk,rfl⟩:=OM (by omega) h1;have hr:=h.gaugeR (cG hg);have r1:=hr.2.2.2.2.2.1;have r2:=hr.2.2.2.2.2.2.1
 have key:∀k:Nat,k<(ã b g).length→∃vs,Wl L (fun u=>u=0) vs ((off b i:Int)+k+1) (g.2.2.1+g.2.2.2.1.2):=by
  intro k
  induction k with
  |zero =>
   intro _;have hw:Wl L (fun u=>u=0) [0] ((off b i:Int)+1) (0+(g.2.2.1+g.2.2.2.1.2)):=Wl.step (.nil rfl) (hL i g hg _ ((Ļ h hg).2 (.inl rfl)));rw[Int.zero_add] at hw;exact⟨[0],by simpa using hw⟩
  |succ k ih =>
   intro hk;obtain⟨vs,hw⟩:=ih (by omega);have hw':=Wl.step hw (hL i g hg _ ((Ļ h hg).2 (.inr (.inr ⟨k,_,_,cw (show k<_ by omega),cw hk,.inl rfl⟩))));rw[gA] at hw'
   have e:(off b i:Int)+((k+1:Nat):Int)+1=(off b i:Int)+k+2:=by push_cast; omega
   exact⟨_,by rw[e]; exact hw'⟩
 obtain⟨vs,hw⟩:=key k hk;exact⟨vs,_,hw,by omega⟩
def SY {L:List Lk} (h:ū b) (hL:GL b L) {v:Int} (h0:0≤v) (h1:v<((É b).length+1:Nat)):∃vs d,Wl L (fun u=>u=v) vs 0 d∧d≤4503599627370496:=by
 by_cases hv:v=0
 ·exact⟨[],0,.nil hv.symm,by omega⟩
 obtain⟨i,g,k,hg,hk,rfl⟩:=OM (by omega) h1;have hgm:=cG hg;have hr:=h.gaugeR hgm;have r1:=hr.2.2.2.2.2.1;have r2:=hr.2.2.2.2.2.2.1;have hd:=Sg h hgm
 have key:∀m:Nat,m≤k→∃vs d,Wl L (fun u=>u=(off b i:Int)+k+1) vs ((off b i:Int)+(k-m:Nat)+1) d∧d≤m*(12*(20001*1048576)+40*1048576):=by
  intro m
  induction m with
  |zero=>intro _; exact⟨[],0,.nil (by simp),by simp⟩
  |succ m ih =>
   intro hm;obtain⟨vs,d,hw,hd⟩:=ih (by omega)
   have e1:((k-m:Nat):Int)=((k-(m+1):Nat):Int)+1:=by omega
   have hl:(((off b i:Int)+(k-(m+1):Nat)+2,(off b i:Int)+(k-(m+1):Nat)+1,lg b g ((ã b g)[k-(m+1)]'(by omega)) ((ã b g)[k-(m+1)+1]'(by omega))):Lk)∈L :=
    hL i g hg _ ((Ļ h hg).2 (.inr (.inr ⟨k-(m+1),_,_,cw (by omega),cw (by omega),.inr rfl⟩)))
   have hb:=vB h hgm (f:=(ã b g)[k-(m+1)]'(by omega)) (t:=(ã b g)[k-(m+1)+1]'(by omega)) (h.day hgm (fc _)).2.1
   have e2:(off b i:Int)+(k-m:Nat)+1=(off b i:Int)+(k-(m+1):Nat)+2:=by omega
   rw[e2] at hw;exact⟨_,_,.step hw hl,by push_cast; omega⟩
 obtain⟨vs,d,hw,hdb⟩:=key k (cz _)
 have e:(off b i:Int)+(k-k:Nat)+1=(off b i:Int)+1:=by omega
 rw[e] at hw;have hw':=Wl.step hw (hL i g hg _ ((Ļ h hg).2 (.inr (.inl rfl))));exact⟨_,_,hw',by omega⟩
def afw (h:ū b) {p:Int→Int} (hp:Pot (ķ b) p) {v:Int} (h0:0≤v) (h1:v<((É b).length+1:Nat)) : -4503599627370496≤p v-p 0∧p v-p 0≤4503599627370496:=by
 obtain⟨vs,d,hw,hd⟩:=ab6 h IQ h0 h1;obtain⟨ws,e,hx,he⟩:=SY h IQ h0 h1;obtain⟨s,rfl,hs⟩:=hw.pot hp;obtain⟨t,rfl,ht⟩:=hx.pot hp;omega
end
structure Iv (L:List Lk) (N:Nat):Prop where
 to:∀v:Int,0≤v→v<N→∃vs d,Wl L (fun u=>u=0) vs v d∧d≤4503599627370496
 from':∀v:Int,0≤v→v<N→∃vs d,Wl L (fun u=>u=v) vs 0 d∧d≤4503599627370496
def ū.tied {b:Ď} (h:ū b):Iv (ķ b) ((É b).length+1):=⟨fun v h0 h1=>ab6 h IQ h0 h1,fun v h0 h1=>SY h IQ h0 h1⟩
section
variable {L:List Lk} {N:Nat}
def TO {L:List Lk} {s:Int} {vs:List Int} {v d:Int}:Wl L (fun v=>acQ s v=true) vs v d↔Wl L (fun u=>u=s) vs v d :=
 ⟨fun h=>h.mono fun u hu=>by simpa[acQ] using hu,fun h=>h.mono fun u hu=>by simpa[acQ] using hu⟩
def Mo (s:Int):(kh L N s).length=N:=by unfold kh; rw[Ġ,ï]
def abB (h:ž L N) (ht:Iv L N) (ho:Μ L N=true) {v:Int} (h0:0≤v) (h1:v<N):gv (kh L N 0) v≤4503599627370496:=by
 have h2:=h.n60;have h3:=h.n1;obtain⟨p,hp⟩:=(Ų h.links (by omega)).1 ho;obtain⟨vs,d,hw,hd⟩:=ht.to v h0 h1;have:=(kg h.links (by omega) hp (s:=0) ⟨by omega,by omega⟩).low v vs d (TO.2 hw);omega
def abA (h:ž L N) (ht:Iv L N) (ho:Μ L N=true) {v:Int} (h0:0≤v) (h1:v<N):gv (kh L N v) 0≤4503599627370496:=by
 have h2:=h.n60;have h3:=h.n1;obtain⟨p,hp⟩:=(Ų h.links (by omega)).1 ho;obtain⟨vs,d,hw,hd⟩:=ht.from' v h0 h1;have:=(kg h.links (by omega) hp (s:=v) ⟨h0,h1⟩).low 0 vs d (TO.2 hw);omega
def Yn (h:ž L N) (ho:Μ L N=true) {v:Int} (h0:0≤v) (h1:v<N):gv (kh L N v) v=0:=by
 have h2:=h.n60;obtain⟨p,hp⟩:=(Ų h.links (by omega)).1 ho;have hd:=kg h.links (by omega) hp (s:=v) ⟨h0,h1⟩;have h3:=hd.low v [] 0 (.nil (by simp[acQ]));obtain⟨vs,hw⟩:=hd.att v h0 h1 (by unfold ŋ; omega);obtain⟨s,hs,hx⟩:=(TO.1 hw).pot hp;subst hs;omega
end
def GO (b:Ď) (id day:Int):Int:=match ö b id with|some g=>if day<g.2.1 then 4 else 0|none=>5
def Wy {b:Ď} (hi:b.2.1.Pairwise fun a b=>a.1<b.1) (id day:Int):GO b id day=mY (Ŕ b) id day:=by
 unfold GO mY;rw[yL hi]
 cases ö b id<;>rfl
def Wh (e:Int):Option Int:=if e=0 then none else some e
def aix (b:Ď) (g d:Int):Bool×Int:=if Mr b g [d]≠0 then(false,Mr b g [d]) else((lK b g d).isSome,0)
def aiw {b:Ď} (h:In b) (g d:Int):zk b g d=some (aix b g d):=by
 have hu:=h.size.loans;unfold zk RH aix;rw[aeN h g (by simp),À]
 by_cases ha:Mr b g [d]=0
 ·rw[Î (by simp[ine,ha]),aeL (by omega),À,if_neg (by simpa using ha)]
  cases lK b g d<;>rfl
 ·rw[Ù (by simp[ine,ha]),if_pos ha]
section
variable {ρ:Type}
def Pb {α σ:Type} (l:List α) (g:Nat→σ) (r:Option ρ) {f:σ×Int→(σ×Int→Option ρ)→Option ρ} {s0:σ} (P:Nat→Prop) (h0:g 0=s0) (hP:P 0)
 (h:∀(i:Nat) (a:α),i<l.length→l[i]?=some a→P i→∀kn,f (g i,i) kn=r∨(P (i+1)∧f (g i,i) kn=kn (g (i+1),(i:Int)+1)))
 (hn:P l.length→∀kn,f (g l.length,l.length) kn=r):Ë f (s0,0)=r:=by
 subst h0;refine pQ (F:=fun _=>r) (fun x=>∃i:Nat,i≤l.length∧x=(g i,(i:Int))∧P i) (fun x=>l.length-x.2.toNat) (fun x hx kn hk=>?_) ⟨0,dB _,rfl,hP⟩;obtain⟨i,hi,rfl,hp⟩:=hx;rcases cV i l.length with hlt|hge
 ·rcases h i _ hlt (cw hlt) hp kn with h1|⟨h1,h2⟩
  ·exact h1
  ·rw[h2,hk _ ⟨i+1,hlt,by simp,h1⟩ (by simp; omega)]
 ·have:i=l.length:=by omega
  subst this;exact hn hp kn
def Zp {l:List Int} {f:Int→(Int→Option ρ)→Option ρ} {K k1:Option ρ} (h:∀(i:Nat) (a b:Int),l[i]?=some a→l[i+1]?=some b→∀kn,f ((i:Int)+1) kn=if b≤a then K else kn ((i:Int)+1+1))
 (hn:∀n:Nat,l.length≤n→∀kn,f n kn=k1):Ë f 1=if l.Pairwise (·<·) then k1 else K:=by
 have hb:=I2 (fun x:Int=>x) l;refine Ě (fun x=>∃i:Nat,x=(i:Int)+1∧∀j a,j≤i→l[j]?=some a→ur (fun x=>x) l j a=false) (fun x=>l.length-x.toNat) ?_ ⟨0,rfl,fun j a hj _=>?_⟩
 ·rintro x ⟨i,rfl,hi⟩;rcases cV (i+1) l.length with hlt|hge
  ·have ha:l[i]?=some l[i]:=cw (by omega);have hc:l[i+1]?=some l[i+1]:=cw hlt
   by_cases hle:l[i+1]≤l[i]
   ·refine .inl fun kn=>?_;rw[h i _ _ ha hc,if_pos hle,if_neg];intro hp;have:=hb.2 hp (i+1) _ hc;simp[ur,ha,hle] at this
   ·refine .inr ⟨(i:Int)+1+1,⟨i+1,by simp,fun j a hj hja=>?_⟩,by omega,fun kn=>by rw[h i _ _ ha hc,if_neg hle]⟩;rcases cV i j with h1|h1
    ·have:j=i+1:=by omega
     subst this;rw[hc] at hja; cases hja;simp[ur,ha]; omega
    ·exact hi j a h1 hja
  ·refine .inl fun kn=>?_;have:=hn (i+1) hge kn;simp only[Int.natCast_add,Int.cast_ofNat_Int] at this;rw[this,if_pos];refine hb.1 fun j a hj=>hi j a ?_ hj;have:=(cB.1 hj).1;omega
 ·have:j=0:=by omega
  subst this; simp[ur]
end
def mixE (b:Ď) (l:List Mx) (i:Nat) (x:Mx):Int :=
 if !(inP x.1 0 19999&&inP x.2.length 2 5) then 1 else
 if ¬x.2.Pairwise (·<·) then 1 else
 if x.2.any (fun g=>(ö b g).isNone) then 5 else
 if x.2.any (fun g=>GO b g x.1 != 0) then 4 else
 if ur (fun y=>y.1) l i x then 6 else
 if x.2.any (fun g=>(lK b g x.1).isSome||(lK b g (x.1+1)).isSome) then 9 else 0
def X0:Nat→Nat
 |0=>1
 |n+1=>X0 n*(n+1)
def zy:List Mx→Nat
 |[]=>1
 |x::r=>X0 x.2.length*zy r
def OA:∀{l:List Mx} {i:Nat} {x:Mx},l[i]?=some x→zy (l.take (i+1))=zy (l.take i)*X0 x.2.length
 |[],_,_,h=>by simp at h
 |y::l,0,x,h=>by simp at h; subst h; simp[zy]
 |y::l,i+1,x,h=>by
  simp only[fA] at h;simp only[gw,zy,OA h,Nat.mul_assoc]
def adM:∀{n:Nat},n≤5→X0 n≤120
 |0,_|1,_|2,_|3,_|4,_|5,_=>by decide
 |n+6,h=>by omega
def Y0:∀{l:List Mx} {n:Nat},l.length≤n→(∀x∈l,x.2.length≤5)→zy l≤120 ^ n
 |[],n,_,_=>Nat.one_le_pow _ _ (by decide)
 |x::l,0,h,_=>by simp at h
 |x::l,n+1,h,hl=>by
  have h1:=Y0 (l:=l) (n:=n) (by simpa using h) fun y hy=>hl y (dh _ hy);have h2:=adM (hl x (by simp));rw[zy,Nat.pow_succ,Nat.mul_comm];exact fQ h1 h2
def OS (b:Ď) (l:List Mx):Option Int:=Ņ (fun i x=>Wh (mixE b l i x)) 0 l
def Ī (m:Ĺ):Int :=
 if ę m.1≠0 then ę m.1 else if 4<m.2.length then 2 else match OS m.1 m.2 with
 |some e=>e
 |none=>if 150<zy m.2 then 2 else 0
def JI (l:List ÿ):List (Int×Int):=l.foldl (fun m g=>JB (k:=tI) (v:=tI) g.1 g.2.1 m) []
def OU (x y n:Int):∀m:List (Int×Int),lP (k:=tI) (v:=tI) x (JB (k:=tI) (v:=tI) y n m)=if x=y then some n else lP (k:=tI) (v:=tI) x m
 |[]=>by
  unfold JB lP ź lP
  by_cases h:x=y<;>simp[h]
 |e::m=>by
  unfold JB
  by_cases h:y=e.1
  ·have:ź tI y e.1=true:=by simp[ź,h]
   rw[this];simp only;unfold lP
   by_cases hx:x=y
   ·subst hx; simp[ź]
   ·have:ź tI x y=false:=by simp[ź,hx]
    have h2:ź tI x e.1=false:=by simp[ź,←h,hx]
    rw[this,if_neg hx];simp only[h2]
  ·have:ź tI y e.1=false:=by simp[ź,h]
   rw[this];simp only;unfold lP
   by_cases hx:x=e.1
   ·subst hx;rw[if_neg (fun e=>h e.symm)];simp[ź]
   ·have h2:ź tI x e.1=false:=by simp[ź,hx]
    rw[h2];exact OU x y n m
def aaP (x:Int) (l:List ÿ):lP (k:=tI) (v:=tI) x (JI l)=(l.reverse.find? fun g=>g.1==x).map fun g=>g.2.1:=by
 have key:∀r:List ÿ,lP (k:=tI) (v:=tI) x (JI r.reverse)=(r.find? fun g=>g.1==x).map fun g=>g.2.1:=by
  intro r
  induction r with
  |nil=>rfl
  |cons g r ih =>
   rw[List.reverse_cons,JI,List.foldl_append];simp only[fW,List.foldl_nil];rw[OU,fj]
   by_cases h:x=g.1
   ·subst h; simp
   ·have:(g.1==x)=false:=by simp; exact fun e=>h e.symm
    rw[if_neg h,this];exact ih
 have:=key l.reverse
 rwa [List.reverse_reverse] at this
def ac0 {b:Ď} (h:b.2.1.Pairwise fun a b=>a.1<b.1) (x:Int):lP (k:=tI) (v:=tI) x (JI b.2.1)=(ö b x).map fun g=>g.2.1:=by
 rw[aaP,Ho h]; rfl
def Vh {ρ:Type} {b:Ď} (h:b.2.1.Pairwise fun a b=>a.1<b.1) (x:Int) (f:Int→Option ρ) (g:Option ρ):MF (k:=tI) (v:=tI) x (JI b.2.1) f g=match ö b x with|some y=>f y.2.1|none=>g:=by
 unfold MF;rw[ac0 h]
 cases ö b x<;>rfl
section
variable {ρ:Type} {b:Ď}
def mix_L0 {l:List Int} (hl:l.length≤1000) (k0:Int→Option ρ) (k1:Unit→Option ρ):Ë (fun(v:Int) kk=>m9 l v (fun u=>kk u) k0 k1) 1=if l.Pairwise (·<·) then k1 () else k0 1:=by
 refine Zp (fun i a c ha hc kn=>?_) (fun n hn kn=>?_)
 ·have hi:=(List.getElem?_eq_some_iff.1 hc).1;unfold m9
  have e:((i:Int)+1)=((i+1:Nat):Int):=by omega
  rw[e,Ó hi,È hc,Ô (by omega) (by omega),←e,Int.add_sub_cancel,È ha,Č,Ô (by omega) (by omega)];simp
 ·unfold m9;rw[Î (by simp[ilt,Ñ]; omega)]
def mix_L1 (hn:b.2.1.length≤1000) (k0:List (Int×Int)→Option ρ):Ë (fun(v:Int×List (Int×Int)) kk=>m8 b.2.1 (Ú b.2.1) v.1 v.2 (fun u v=>kk (u,v)) k0) ((0:Int),[])=k0 (JI b.2.1):=by
 refine ĩ b.2.1 (fun i=>JI (b.2.1.take i)) _ rfl (fun i g hi hg kn=>?_) (fun kn=>?_)
 ·try dsimp only
  unfold m8;rw[Ó hi,È hg,Í hi (by omega)];congr 2;rw[take_succ hg,JI,JI,List.foldl_append];rfl
 ·try dsimp only
  unfold m8;rw[ß,List.take_length]
def mix_L2 (hi:b.2.1.Pairwise fun a b=>a.1<b.1) {l:List Int} (hl:l.length≤1000) (X Y Z:Option ρ):Ë (fun(v:Int) kk=>mZ l (Ú l) (JI b.2.1) v (fun u=>kk u) (fun z=>ifb (ige z (0:Int)) X Y) (fun _=>Z)) 0=if l.any (fun g=>(ö b g).isNone) then X else Z:=by
 refine Ň l _ (fun z=>ifb (ige z (0:Int)) X Y) X Z (fun j=>Ù (by simp[ige]) _ _) (fun i a hia ha kn=>?_) (fun kn=>?_)
 ·unfold mZ;rw[Ó hia,È ha,Vh hi,Í hia (by omega)]
  cases ö b a<;>rfl
 ·unfold mZ;rw[ß]
def mix_L3 (hi:b.2.1.Pairwise fun a b=>a.1<b.1) {l:List Int} (hl:l.length≤1000) (hk:∀x∈l,∃g,ö b x=some g) (d:Int) (X Y Z:Option ρ):Ë (fun(v:Int) kk=>kr l (Ú l) d (JI b.2.1) v (fun u=>kk u) (fun z=>ifb (ige z (0:Int)) X Y) (fun _=>Z)) 0=if l.any (fun g=>GO b g d != 0) then X else Z:=by
 refine Ň l _ (fun z=>ifb (ige z (0:Int)) X Y) X Z (fun j=>Ù (by simp[ige]) _ _) (fun i a hia ha kn=>?_) (fun kn=>?_)
 ·unfold kr;rw[Ó hia,È ha,Vh hi,Í hia (by omega)];obtain⟨g,hg⟩:=hk a (List.mem_of_getElem? ha);unfold GO;rw[hg];dsimp only;rw[Č]
  by_cases h:d<g.2.1<;>simp[ilt,h]
 ·unfold kr;rw[ß]
def mix_L4 (h:ū b) {l:List Int} (hl:l.length≤1000) (hk:∀x∈l,∃g,ö b x=some g) {d:Int} (hd:0≤d∧d<20000) (X Y Z:Option ρ):Ë (fun(v:Int) kk=>Ń l (Ú l) b.1.1 b.1.2 b.2.1 b.2.2.1 b.2.2.2.1 b.2.2.2.2.1 b.2.2.2.2.2 d v (fun u=>kk u) (fun z=>ifb (ige z (0:Int)) X Y) (fun _=>Z)) 0=if l.any (fun g=>(lK b g d).isSome||(lK b g (d+1)).isSome) then X else Z:=by
 refine Ň l _ (fun z=>ifb (ige z (0:Int)) X Y) X Z (fun j=>Ù (by simp[ige]) _ _) (fun i a hia ha kn=>?_) (fun kn=>?_)
 ·unfold Ń;obtain⟨g,hg⟩:=hk a (List.mem_of_getElem? ha)
  have hw:∀e,0≤e→e≤20000→zk ((b.1.1,b.1.2),b.2.1,b.2.2.1,b.2.2.2.1,b.2.2.2.2.1,b.2.2.2.2.2) a e=some ((lK b a e).isSome,0):=fun e h0 h1=>by
   rw[show(((b.1.1,b.1.2),b.2.1,b.2.2.1,b.2.2.2.1,b.2.2.2.2.1,b.2.2.2.2.2):Ď)=b from rfl,aiw ⟨h.size,fun g hg=>by have:=(h.gaugeR hg).2.1; unfold I64; omega⟩]
   have:Mr b a [e]=0:=by
    unfold Mr;rw[if_neg (by simp[(Ģ b).2 h]),if_neg (by simp[I0,inP,h0,h1]),yL h.ids,hg]; rfl
   unfold aix;rw[if_neg (by simp[this])]
  rw[Ó hia,È ha,hw d hd.1 (by omega),À,Ô (by omega) (by omega),hw (d+1) (by omega) (by omega),À,Í hia (by omega)];dsimp only
  cases(lK b a d).isSome<;>cases(lK b a (d+1)).isSome<;>rfl
 ·unfold Ń;rw[ß]
end
def afR {b:Ď} (h:ū b) {l:List Mx} {i:Nat} {x:Mx} (hx:l[i]?=some x) (hn:i≤1000):Er b l i=some (mixE b l i x):=by
 unfold Er J6 mixE;rw[È hx]
 by_cases h1:inP x.1 0 19999=true∧inP (x.2.length:Int) 2 5=true
 ·obtain⟨h1,h2⟩:=h1;rw[if_neg (by simp[h1,h2])];simp only[inP,cA,decide_eq_true_eq] at h1 h2
  have hl:x.2.length≤1000:=by omega
  rw[Î (by simp[ilt]; omega),Î (by simp[ige]; omega),Î (by simp[ilt,Ñ]; omega),Î (by simp[igt,Ñ]; omega),mix_L0 hl]
  by_cases h3:x.2.Pairwise (·<·)
  ·rw[if_pos h3,if_neg (by simpa using h3)]
   try dsimp only
   rw[mix_L1 (by have:=h.nG; omega),mix_L2 h.ids hl]
   by_cases h4:(x.2.any fun g=>(ö b g).isNone)=true
   ·rw[if_pos h4,if_pos h4]
   ·have hk:∀y∈x.2,∃g,ö b y=some g:=fun y hy=>by
     simp only[dc,not_exists,not_and,Option.isNone_iff_eq_none] at h4;exact Option.ne_none_iff_exists'.1 (h4 y hy)
    rw[if_neg h4,if_neg h4,mix_L3 h.ids hl hk]
    by_cases h5:(x.2.any fun g=>GO b g x.1 != 0)=true
    ·rw[if_pos h5,if_pos h5]
    ·rw[if_neg h5,if_neg h5,mix_L4 h hl hk (by omega)]
     cases i with
     |zero =>
      rw[Î (by simp[igt]),if_neg (show ¬ur (fun y:Mx=>y.1) l 0 x=true by simp[ur])]
      split<;>rfl
     |succ i =>
      obtain⟨hi,_⟩:=cB.1 hx;have hy:l[i]?=some l[i]:=cw (by omega)
      have e:((i+1:Nat):Int)-1=i:=by omega
      rw[Ù (by simp[igt]),Ô (by omega) (by omega),e,È hy,Č];unfold ur;simp only[Nat.add_sub_cancel,hy,Option.any_some,Nat.succ_pos,decide_true,Bool.true_and,ile,decide_eq_true_eq]
      split
      ·rfl
      ·split<;>rfl
  ·rw[if_neg h3,if_pos h3]
 ·rw[if_pos (by simp only[dS]; cases h2:inP x.1 0 19999<;>cases h3:inP (x.2.length:Int) 2 5<;>simp_all)]
  simp only[inP,cA,decide_eq_true_eq,not_and,Int.not_le] at h1;simp only[Č,ilt,ige,igt,Ñ,decide_eq_true_eq]
  split
  ·rfl
  split
  ·rfl
  split
  ·rfl
  rw[if_pos (by have:=h1 (by omega); omega)]
def Zm {b:Ď} {l:List Mx} {i:Nat} {x:Mx} (h:mixE b l i x=0):x.2.length≤5:=by
 unfold mixE at h
 split at h
 ·cases h
 ·rename_i h1;simp[inP] at h1;omega
def af3 {n v:Nat} (hn:n≤5) (hv:v≤1000000000) {ρ:Type} (k0:Int→Option ρ):Ë (fun(u:Int×Int) kk=>nc (aaM n) u.1 u.2 (fun a b=>kk (a,b)) k0) ((v:Int),(0:Int))=k0 ((v*X0 n:Nat):Int):=by
 refine Pb (List.range n) (fun i=>((v*X0 i:Nat):Int)) _ (fun _=>True) (by simp[X0]) trivial (fun i a hi ha _ kn=>.inr ⟨trivial,?_⟩) (fun _ kn=>?_)
 ·rw[fJ] at hi
  try dsimp only
  unfold nc;have hf:=adM (n:=i) (by omega);have hb:v*X0 i≤1000000000*120:=Nat.mul_le_mul hv hf;have h2:v*X0 i*(i+1)≤1000000000*120*6:=Nat.mul_le_mul hb (by omega)
  have e:((v*X0 i:Nat):Int)*((i:Int)+1)=((v*X0 i*(i+1):Nat):Int):=by simp
  rw[ag1 hi,Ô (by omega) (by omega),e,Ô (by omega) (by omega),Ô (by omega) (by omega),X0,Nat.mul_assoc]
 ·rw[fJ]
  try dsimp only
  unfold nc;rw[ß]
def acZ {b:Ď} {l:List Mx} {i:Nat} {x:Mx} (hx:l[i]?=some x) (hp:∀j y,j<i→l[j]?=some y→mixE b l j y=0) (he:mixE b l i x≠0):OS b l=some (mixE b l i x):=by
 have key:∀(m:List Mx) (k:Nat),l.drop k=m→k≤i→Ņ (fun i x=>Wh (mixE b l i x)) k m=some (mixE b l i x):=by
  intro m
  induction m with
  |nil =>
   intro k hk hki;have:=List.drop_eq_nil_iff.1 hk;have:=(cB.1 hx).1;omega
  |cons y m ih =>
   intro k hk hki
   have hy:l[k]?=some y:=by
    have:(l.drop k)[0]?=some y:=by rw[hk]; rfl
    simpa using this
   rw[Ņ];rcases cV k i with hlt|hge
   ·rw[hp k y hlt hy];simp only[Wh,if_true];refine ih (k+1) ?_ hlt;rw[←List.tail_drop,hk]; rfl
   ·have:k=i:=by omega
    subst this;rw[hx] at hy; cases hy;simp[Wh,he]
 exact key l 0 rfl (dB _)
def JC {b:Ď} {l:List Mx} (hp:∀j y,l[j]?=some y→mixE b l j y=0):OS b l=none:=by
 rw[OS,iZ];intro j y hy;rw[di,hp j y hy]; rfl
def mS {m:Ĺ} (hs:In m.1) (hn:m.2.length≤1000):gY m=some (Ī m):=by
 unfold gY Kn Ī;rw[vY hs.size hs.num,À]
 by_cases hc:ę m.1=0
 ·have hg:=(Ģ _).1 hc;rw[Î (by simp[ine,hc]),if_neg (by simp[hc])]
  by_cases h4:4<m.2.length
  ·rw[Ù (by simp[igt,Ñ]; omega),if_pos h4]
  ·rw[Î (by simp[igt,Ñ]; omega),if_neg h4];refine Pb m.2 (fun i=>((zy (m.2.take i):Nat):Int)) _ (fun i=>∀j y,j<i→m.2[j]?=some y→mixE m.1 m.2 j y=0) (by simp[zy]) (fun j y h _=>by omega) (fun i x hi hx hp kn=>?_) (fun hp kn=>?_)
   ·try dsimp only
    unfold qY;rw[Ó hi,È hx,show(((m.1.1.1,m.1.1.2),m.1.2.1,m.1.2.2.1,m.1.2.2.2.1,m.1.2.2.2.2.1,m.1.2.2.2.2.2):Ď)=m.1 from rfl,afR hg hx (by omega),À]
    by_cases he:mixE m.1 m.2 i x=0
    ·rw[Î (by simp[ine,he])]
     have h5:∀y∈m.2.take i,y.2.length≤5:=fun y hy=>by
      obtain⟨j,hj,rfl⟩:=cM.1 hy;rw[cT] at hj;rw[eQ];exact Zm (hp j _ (by omega) (cw (by omega)))
     have hb:=Y0 (l:=m.2.take i) (n:=4) (by rw[cT]; omega) h5
     have hb2:(120:Nat) ^ 4=207360000:=by decide
     refine .inr ⟨fun j y hj hy=>?_,?_⟩
     ·rcases cV j i with h|h
      ·exact hp j y h hy
      ·have:j=i:=by omega
       subst this;rw[hx] at hy; cases hy;exact he
     ·rw[af3 (Zm he) (by omega),Í hi (by omega),OA hx]
    ·refine .inl ?_;rw[Ù (by simp[ine,he]),acZ hx hp he]
   ·try dsimp only
    unfold qY;rw[ß,JC fun j y hy=>hp j y (List.getElem?_eq_some_iff.1 hy).1 hy,List.take_length];dsimp only;rw[Č];simp only[igt,decide_eq_true_eq]
    by_cases h:150<zy m.2
    ·rw[if_pos (by omega),if_pos h]
    ·rw[if_neg (by omega),if_neg h]
 ·rw[Ù (by simp[ine,hc]),if_pos hc]
def Tf {α:Type} [DecidableEq α] {l m:List α} (hl:l.length=m.length) (h:Ņ (fun i a=>if m[i]?=some a then none else some false) 0 l=none):l=m:=by
 have:=iZ.1 h;refine List.ext_getElem hl fun i h1 h2=>?_;have h3:=this i l[i] (cw h1);rw[di] at h3
 split at h3
 ·rename_i h4;rw[cw h2] at h4;exact(Option.some.inj h4).symm
 ·cases h3
def Te {α:Type} [DecidableEq α] {l m:List α} {b:Bool} (h:Ņ (fun i a=>if m[i]?=some a then none else some false) 0 l=some b):b=false∧l≠m:=by
 constructor
 ·have:∀(k:Nat) (x:List α) (b:Bool),Ņ (fun i a=>if m[i]?=some a then none else some false) k x=some b→b=false:=by
   intro k x
   induction x generalizing k with
   |nil=>intro b h; cases h
   |cons a t ih =>
    intro b h;unfold Ņ at h
    split at h
    ·rename_i c hc
     split at hc
     ·cases hc
     ·cases hc; cases h; rfl
    ·exact ih _ _ h
  exact this _ _ _ h
 ·intro e;subst e;rw[iZ.2 fun j a ha=>by rw[di,if_pos ha]] at h;cases h
def Mz {l m:List Int} (hn:l.length≤1000000):jj l m=some (decide (l=m)):=by
 unfold jj uV;rw[Ñ,Ñ]
 by_cases hl:l.length=m.length
 ·rw[Î (by simp[ine,hl])];refine dV (mA l (fun i a=>if m[i]?=some a then none else some false) some (some true) (fun i a hi ha kn=>?_) (fun kn=>?_)) ?_
  ·try dsimp only
   unfold jW;have hm:m[i]?=some m[i]:=List.getElem?_eq_getElem (by omega);rw[Ó hi,È ha,È hm,Í hi (by omega),hm,Č]
   by_cases h:a=m[i]
   ·simp[ine,h]
   ·have h':¬m[i]=a:=fun e=>h e.symm;simp[ine,h,h']
  ·try dsimp only
   unfold jW;rw[ß]
  ·cases h:Ņ (fun i a=>if m[i]?=some a then none else some false) 0 l with
   |none=>simp[Tf hl h]
   |some b =>
    obtain⟨h1,h2⟩:=Te h;simp[h1,h2]
 ·rw[Ù (by simp[ine]; omega)];have:l≠m:=fun e=>hl (by rw[e]);simp[this]
structure MixOk (b:Ď) (x:Mx):Prop where
 day:0≤x.1∧x.1<20000
 len:2≤x.2.length∧x.2.length≤5
 asc:x.2.Pairwise (·<·)
 known:∀l∈x.2,∃g,ö b l=some g∧g.2.1≤x.1
 home:∀l∈x.2,lK b l x.1=none∧lK b l (x.1+1)=none
def TT {b:Ď} {l:List Mx} {i:Nat} {x:Mx} (h:mixE b l i x=0):MixOk b x∧ur (fun y=>y.1) l i x=false:=by
 unfold mixE at h
 split at h
 ·cases h
 rename_i h1
 split at h
 ·cases h
 rename_i h2
 split at h
 ·cases h
 rename_i h3
 split at h
 ·cases h
 rename_i h4
 split at h
 ·cases h
 rename_i h5
 split at h
 ·cases h
 rename_i h6;simp only[inP,Bool.not_eq_true',Bool.and_eq_false_iff,not_or,Bool.not_eq_false,decide_eq_false_iff_not,Int.not_le,Bool.and_eq_true,decide_eq_true_eq] at h1;simp only[List.any_eq_true,not_exists,not_and,Option.isNone_iff_eq_none] at h3;simp only[List.any_eq_true,not_exists,not_and,bne_iff_ne,ne_eq,Decidable.not_not] at h4;simp only[List.any_eq_true,not_exists,not_and,Bool.or_eq_true,not_or,Option.isSome_iff_ne_none,ne_eq,Decidable.not_not] at h6;refine⟨⟨by omega,by omega,Decidable.not_not.1 h2,fun y hy=>?_,h6⟩,by simpa using h5⟩;obtain⟨g,hg⟩:=Option.ne_none_iff_exists'.1 (h3 y hy);refine⟨g,hg,?_⟩;have:=h4 y hy;unfold GO at this;rw[hg] at this;dsimp only at this
 split at this
 ·cases this
 ·omega
structure MOk (m:Ĺ):Prop where
 good:ū m.1
 n4:m.2.length≤4
 mixE:∀i x,m.2[i]?=some x→mixE m.1 m.2 i x=0
 prod:zy m.2≤150
def Ĵ (m:Ĺ):Ī m=0↔MOk m:=by
 unfold Ī;constructor
 ·intro h
  split at h
  ·rename_i h1; exact absurd h h1
  rename_i h1
  split at h
  ·cases h
  rename_i h2
  cases hm:OS m.1 m.2 with
  |some e =>
   rw[hm] at h;dsimp only at h;rw[OS] at hm
   have key:∀(l:List Mx) (k:Nat) (e:Int),Ņ (fun i x=>Wh (mixE m.1 m.2 i x)) k l=some e→e≠0:=by
    intro l
    induction l with
    |nil=>intro k e h; cases h
    |cons y l ih =>
     intro k e h;rw[Ņ] at h
     by_cases hz:mixE m.1 m.2 k y=0
     ·rw[hz] at h;exact ih (k+1) e h
     ·simp only[Wh,if_neg hz,Option.some.injEq] at h;rw[←h]; exact hz
   exact absurd h (key _ _ _ hm)
  |none =>
   rw[hm] at h;dsimp only at h
   split at h
   ·cases h
   rename_i h3;refine⟨(Ģ _).1 (Decidable.not_not.1 h1),by omega,fun i x hx=>?_,by omega⟩;have:=(iZ.1 hm) i x hx;rw[Nat.zero_add] at this;unfold Wh at this
   split at this
   ·assumption
   ·cases this
 ·intro h;rw[if_neg (by simp[(Ģ _).2 h.good]),if_neg (by have:=h.n4; omega),JC h.mixE];dsimp only;rw[if_neg (by have:=h.prod; omega)]
section
variable {m:Ĺ}
def MOk.mix (h:MOk m) {x:Mx} (hx:x∈m.2):MixOk m.1 x:=by
 obtain⟨i,hi,rfl⟩:=cM.1 hx;exact(TT (h.mixE i _ (cw hi))).1
def MOk.days (h:MOk m):m.2.Pairwise fun a b=>a.1<b.1:=(I2 (fun y:Mx=>y.1) m.2).1 fun i x hx=>(TT (h.mixE i x hx)).2
def MOk.len5 (h:MOk m):∀x∈m.2,x.2.length≤5:=fun x hx=>(h.mix hx).len.2
def MOk.in_ (h:MOk m):In m.1:=⟨h.good.size,fun g hg=>by have:=(h.good.gaugeR hg).2.1; unfold I64; omega⟩
end
def Y5 {l:List Int} {i:Nat} (hi:i<l.length):(l[i]::(l.take i++l.drop (i+1))).Perm l:=by
 have h:l=l.take i++l[i]::l.drop (i+1):=by rw[←du hi,dK]
 exact List.Perm.trans (List.perm_middle.symm) (by rw[←h])
def IE:∀{n:Nat} {l x:List Int},l.length=n→(x∈IF n l↔x.Perm l)
 |0,l,x,h=>by
  have:l=[]:=cO.1 h;subst this;simp[IF]
 |n+1,l,x,h=>by
  rw[IF,if_neg (by omega)];simp only[dg,f7,dj];constructor
  ·rintro⟨i,hi,y,hy,rfl⟩;have hy:=(IE (n:=n) (by simp; omega)).1 hy;rw[dZ,cw hi];exact(hy.cons _).trans (Y5 hi)
  ·intro hp
   cases x with
   |nil=>have:=hp.length_eq; simp at this; omega
   |cons a x =>
    have ha:a∈l:=hp.subset (by simp);obtain⟨i,hi,rfl⟩:=cM.1 ha;refine⟨i,hi,x,(IE (n:=n) (by simp; omega)).2 ?_,by rw[dZ,cw hi]; rfl⟩;exact List.Perm.cons_inv (hp.trans (Y5 hi).symm)
def RZ {α β:Type} (f:α→List β) (n:Nat):∀l:List α,(∀a∈l,(f a).length=n)→(l.flatMap f).length=l.length*n
 |[],_=>by simp
 |a::l,h=>by
  rw[dz,cD,h a (by simp),RZ f n l fun b hb=>h b (dh _ hb),cN,Nat.succ_mul]; omega
def Zi:∀{n:Nat} {l:List Int},l.length=n→(IF n l).length=X0 n
 |0,_,_=>rfl
 |n+1,l,h=>by
  rw[IF,if_neg (by omega),RZ _ (X0 n) _ fun i hi=>by rw[dl]; exact Zi (by simp at hi ⊢; omega),fJ,X0,h,Nat.mul_comm]
def EF:∀{ms:List Mx} {w:Way},w∈jK ms↔ħ ms w
 |[],[]=>by simp[jK,ħ]
 |[],_::_=>by simp[jK,ħ]
 |m::ms,[]=>by simp[jK,ħ]
 |m::ms,l::ls=>by
  simp only[jK,dg,dj,ħ];constructor
  ·rintro⟨x,hx,y,hy,e⟩;cases e;exact⟨(IE rfl).1 hx,EF.1 hy⟩
  ·intro⟨h1,h2⟩;exact⟨l,(IE rfl).2 h1,ls,EF.2 h2,rfl⟩
def L7:∀ms:List Mx,(jK ms).length=zy ms
 |[]=>rfl
 |m::ms=>by rw[jK,RZ _ (zy ms) _ fun x _=>by rw[dl,L7],Zi rfl,zy]
def Œ (ms:List Mx):List Way:=ĸ (ME ms) (jK ms)
def aa6 {α:Type} {k k':α→Int} {x:α} {l:List α} (hx:k x=k' x) (h:∀y∈l,k y=k' y):aa7 k x l=aa7 k' x l:=by
 induction l with
 |nil=>rfl
 |cons y l ih =>
  unfold aa7;rw[hx,h y (by simp),ih fun z hz=>h z (List.mem_cons_of_mem _ hz)]
def Ly {α:Type} {k k':α→Int}:∀{l:List α},(∀y∈l,k y=k' y)→ĸ k l=ĸ k' l
 |[],_=>rfl
 |x::l,h=>by
  have hl:=Ly fun y hy=>h y (dh x hy);show aa7 k x (ĸ k l)=aa7 k' x (ĸ k' l);rw[hl];exact aa6 (h x (by simp)) fun y hy=>h y (dh _ ((Ŋ (key:=k') l).mem.1 hy))
def sE {ms:List Mx} {w:Way}:w∈Œ ms↔ħ ms w:=by
 rw[Œ,(Ŋ (jK ms)).mem,EF]
def abV (ms:List Mx):(Œ ms).length=zy ms:=by rw[Œ,(Ŋ (jK ms)).length,L7]
section
variable {m:Ĺ} {ρ:Type}
def MOk.wgt (h:MOk m) {w:Way} (hw:ħ m.2 w):ĭ m w=some (ME m.2 w) :=
 abU hw (by have:=h.n4; omega) fun x hx=>by have:=h.len5 x hx; omega
def IR {α:Type} {f:List α→α→(List α→Option ρ)→Option ρ} (h:∀v y kn,v.length≤1000000→f v y kn=kn (v++[y])):∀{xs:List α} {v:List α} {K:List α→Option ρ},v.length+xs.length≤1000000→ym f xs v K=K (v++xs)
 |[],v,K,_=>by simp[ym]
 |x::xs,v,K,hl=>by
  simp only[cN] at hl;rw[ym,h v x _ (by omega),IR h (by simp; omega)]; simp
def ad9 (h:MOk m):mC m.2=some (jK m.2):=by
 unfold mC;rw[Ć];simp only[Bool.and_eq_true,decide_eq_true_eq,List.all_eq_true];exact⟨by have:=h.n4; omega,fun x hx=>by have:=h.len5 x hx; omega⟩
def Si (h:MOk m):(jK m.2).length≤150:=by rw[L7]; exact h.prod
def S8 (h:MOk m):Į (jK m.2) (Ú (jK m.2)) m=some (Œ m.2,m):=by
 have h2:∀w∈jK m.2,ĭ m w=some (ME m.2 w):=fun w hw=>h.wgt (EF.1 hw)
 have h3:∀w∈jK m.2,Ē m w=ME m.2 w:=fun w hw=>by unfold Ē; rw[h2 w hw]; rfl
 rw[Ñ,acf (fun w hw=>by rw[h2 w hw,h3 w hw]) (by have:=Si h; omega),Ly h3]; rfl
def I5 (h:MOk m):rL m=some (Œ m.2):=by
 unfold rL Qn;have hl:=Si h;rw[ad9 h,À,IR (fun v y kn hv=>by unfold Bm; rw[Ć (Ø (by simp; omega))]) (by simp; omega),List.nil_append,S8 h];rfl
def aip (hs:In m.1) (hn:m.2.length≤1000):IU m=some (if Ī m≠0 then([],Ī m) else(Œ m.2,0)):=by
 unfold IU Qz;rw[mS hs hn,À]
 by_cases hc:Ī m=0
 ·rw[Î (by simp[ine,hc]),if_neg (by simp[hc]),I5 ((Ĵ m).1 hc)]; rfl
 ·rw[Ù (by simp[ine,hc]),if_pos hc]
end
def Zq {ρ:Type} (n:Nat) (p:Nat→Bool) (K0 K1:Option ρ) {f:Int→(Int→Option ρ)→Option ρ} (h:∀i:Nat,i<n→∀kn,f i kn=if p i then kn ((i:Int)+1) else K0) (hn:∀kn,f n kn=K1):Ë f 0=if (List.range n).all p then K1 else K0:=by
 have:=Ň (List.range n) (fun i=>!p i) (fun _=>K0) K0 K1 (f:=f) (fun _=>rfl) (fun i a hi ha kn=>by
  obtain⟨_,rfl⟩:=cB.1 ha;rw[fJ] at hi;rw[h i hi kn,List.getElem_range]
  cases p i<;>rfl) (fun kn=>by rw[fJ]; exact hn kn)
 rw[this]
 have e:(List.range n).any (fun i=>!p i)=!(List.range n).all p:=by rw[gH]; simp
 rw[e]
 cases(List.range n).all p<;>rfl
def rH:List Mx→Way→Bool
 |[],[]=>true
 |m::ms,l::ls=>decide (lU l=m.2)&&rH ms ls
 |_,_=>false
def Ph:∀{ms:List Mx} {w:Way},(∀x∈ms,x.2.Pairwise (·<·))→(rH ms w=true↔ħ ms w)
 |[],[],_=>by simp[rH,ħ]
 |[],_::_,_=>by simp[rH,ħ]
 |_::_,[],_=>by simp[rH,ħ]
 |m::ms,l::ls,h=>by
  rw[rH,ħ,cA,decide_eq_true_eq,Ph fun x hx=>h x (dh _ hx)];have hm:=h m (by simp);refine and_congr ⟨fun e=>by rw[←e]; exact(Ş l).symm,fun e=>?_⟩ Iff.rfl;exact List.Perm.eq_of_pairwise (fun a b _ _ h1 h2=>Int.le_antisymm h1 h2) (lh l) (hm.imp fun h=>Int.le_of_lt h) ((Ş l).trans e)
def adp {ms:List Mx} {w:Way} (hl:w.length=ms.length):rH ms w=(List.range ms.length).all fun i=>match ms[i]?,w[i]? with|some m,some l=>decide (lU l=m.2)|_,_=>false:=by
 induction ms generalizing w with
 |nil =>
  have:w=[]:=cO.1 hl;subst this; rfl
 |cons m ms ih =>
  cases w with
  |nil=>simp at hl
  |cons l w =>
   rw[rH,ih (by simpa using hl),cN,List.range_succ_eq_map,fq,List.all_map];rfl
def row_eq {l m:List Int} (hl:l.length=m.length) (hm:m.length≤5):(l.getD 0 0=m.getD 0 0∧l.getD 1 0=m.getD 1 0∧l.getD 2 0=m.getD 2 0∧l.getD 3 0=m.getD 3 0∧l.getD 4 0=m.getD 4 0)↔l=m:=by
 constructor
 ·intro⟨h0,h1,h2,h3,h4⟩;refine List.ext_getElem hl fun i hi hi'=>?_
  have e:∀k:Nat,l.getD k 0=m.getD k 0→k=i→l[i]=m[i]:=fun k hk e=>by
   subst e;simpa[dZ,cw hi,cw hi'] using hk
  have:i=0∨i=1∨i=2∨i=3∨i=4:=by omega
  rcases this with h|h|h|h|h
  ·exact e 0 h0 h.symm
  ·exact e 1 h1 h.symm
  ·exact e 2 h2 h.symm
  ·exact e 3 h3 h.symm
  ·exact e 4 h4 h.symm
 ·rintro rfl; simp
def afQ {m:Ĺ} (h:MOk m) {w:Way} (hw:∀l∈w,l.length≤100000):Ep m w=some (rH m.2 w):=by
 unfold Ep J0;have hn:=h.n4
 by_cases hl:w.length=m.2.length
 ·rw[Î (by simp[ine,Ñ]; omega),adp hl];have hp:∀i,i<m.2.length→∃x l,m.2[i]?=some x∧w[i]?=some l:=fun i hi=>⟨_,_,cw hi,cw (by omega)⟩;refine dV (Zq m.2.length (fun i=>match m.2[i]?,w[i]? with|some m,some l=>decide (lU l=m.2)|_,_=>false) (some false) (some true) (fun i hi kn=>?_) (fun kn=>?_)) ?_
  ·obtain⟨x,l,hx,hwl⟩:=hp i hi
   try dsimp only
   unfold qP;have hx5:=h.len5 x (List.mem_of_getElem? hx);have hl1:=hw l (List.mem_of_getElem? hwl);rw[Ó (by omega),È hwl,È hx,hx,hwl];dsimp only
   by_cases hll:l.length=x.2.length
   ·rw[Î (by simp[ine,Ñ]; omega)];unfold yX;rw[Ć (Ø (by omega)),À,IR (fun v y kn hv=>by unfold xo; rw[Ć (Ø (by simp; omega))]) (by simp; omega),List.nil_append,Ć (Ø (by omega))];unfold Eo;rw[À,À,PS];have hr:=row_eq (l:=lU l) (m:=x.2) (by rw[(Ş l).length_eq]; exact hll) hx5
    by_cases he:lU l=x.2
    ·obtain⟨e0,e1,e2,e3,e4⟩:=hr.2 he;rw[e0,e1,e2,e3,e4,Î (by simp[Ca]),Ô (by omega) (by omega),if_pos (by simpa using he)]
    ·rw[Ù,if_neg (by simpa using he)]
     cases hb:(!((Ca ((lU l).getD 0 0) (x.2.getD 0 0))&&((Ca ((lU l).getD 1 0) (x.2.getD 1 0))&&((Ca ((lU l).getD 2 0) (x.2.getD 2 0))&&((Ca ((lU l).getD 3 0) (x.2.getD 3 0))&&((Ca ((lU l).getD 4 0) (x.2.getD 4 0))&&true)))))) with
     |true=>rfl
     |false =>
      refine absurd (hr.1 ?_) he;simpa[Ca] using hb
   ·rw[Ù (by simp[ine,Ñ]; omega),if_neg];intro e;simp only[decide_eq_true_eq] at e;have:=(Ş l).length_eq;rw[e] at this;exact hll this.symm
  ·try dsimp only
   unfold qP;rw[Î (by simp[ilt,Ñ]; omega)]
  ·cases(List.range m.2.length).all (fun i=>match m.2[i]?,w[i]? with|some m,some l=>decide (lU l=m.2)|_,_=>false)<;>rfl
 ·rw[Ù (by simp[ine,Ñ]; omega)];congr 1
  symm
  clear hw
  have key:∀{ms:List Mx} {w:Way},w.length≠ms.length→rH ms w=false:=by
   intro ms
   induction ms with
   |nil=>intro w h; cases w with|nil=>exact absurd rfl h|cons _ _=>rfl
   |cons x ms ih =>
    intro w h
    cases w with
    |nil=>rfl
    |cons l w=>rw[rH,ih (by simpa using h),Bool.and_false]
  exact key hl
def rU (m:Ĺ) (w:Way):Int:=if Ī m≠0 then Ī m else if rH m.2 w then 0 else 1
def Ms {m:Ĺ} (hs:In m.1) (hn:m.2.length≤1000) {w:Way} (hw:∀l∈w,l.length≤100000):t7 m w=some (rU m w):=by
 unfold t7 Kd rU;rw[mS hs hn,À]
 by_cases hc:Ī m=0
 ·rw[Î (by simp[ine,hc]),if_neg (by simp[hc]),afQ ((Ĵ m).1 hc) hw,À]
  cases rH m.2 w<;>rfl
 ·rw[Ù (by simp[ine,hc]),if_pos hc]
def vV {m:Ĺ} {w:Way}:rU m w=0↔MOk m∧ħ m.2 w:=by
 unfold rU
 by_cases hc:Ī m=0
 ·have h:=(Ĵ m).1 hc;rw[if_neg (by simp[hc])];have:=Ph (w:=w) fun x hx=>(h.mix hx).asc
  cases hi:rH m.2 w with
  |true=>simp[this.1 hi,h]
  |false =>
   exact⟨fun e=>absurd (show(1:Int)=0 from e) (by decide),fun e=>absurd (this.2 e.2) (by simp[hi])⟩
 ·rw[if_pos hc];exact⟨fun e=>absurd e hc,fun⟨e,_⟩=>absurd ((Ĵ m).2 e) hc⟩
section
variable {ρ:Type}
def yV {α β:Type} (l:List α) (g:α→β) (K:List β→Option ρ) {f:Int×List β→(Int×List β→Option ρ)→Option ρ}
 (h:∀(i:Nat) (a:α),i<l.length→l[i]?=some a→∀(v:List β) kn,v.length=i→f (i,v) kn=kn ((i:Int)+1,v++[g a])) (hn:∀(v:List β) kn,f (l.length,v) kn=K v):Ë f (0,[])=K (l.map g):=by
 refine ĩ l (fun i=>(l.take i).map g) _ rfl (fun i a hi ha kn=>?_) (fun kn=>?_)
 ·rw[h i a hi ha _ kn (by simp; omega),take_succ ha,eT]; rfl
 ·rw[hn,fE]
end
def mU (m:Ĺ) (w:Way) (d:Int) (l:List Int):List Int:=lU (l.map fun x=>ś m.2 w x d)
def ae5 (m:Ĺ) (w:Way) (c:Cmp):Cmp:=(c.1,c.2.1,mU m w c.2.1 c.2.2.1,mU m w c.2.1 c.2.2.2.1,c.2.2.2.2)
def trP (m:Ĺ) (w:Way):Ď :=
 (m.1.1,m.1.2.1,m.1.2.2.1.map (fun u=>(ś m.2 w u.1 u.2,u.2)),m.1.2.2.2.1.map (fun l=>(ś m.2 w l.1 l.2.1.1,l.2)),m.1.2.2.2.2.1.map (ae5 m w),m.1.2.2.2.2.2.map (fun n=>(ś m.2 w n.1 n.2,n.2)))
section
variable {ρ:Type} {m:Ĺ} {w:Way}
def MOk.who (h:MOk m) (hw:ħ m.2 w) (x d:Int):su m w x d=some (ś m.2 w x d) :=
 who_ok hw (by have:=h.n4; omega) (fun y hy=>by have:=h.len5 y hy; omega) x d
def tr_L0 (h:MOk m) (hw:ħ m.2 w) (k0:List (Int×Int)→Option ρ):Ë (fun(v:Int×List (Int×Int)) kk=>jT m w m.1.2.2.1 (Ú m.1.2.2.1) v.1 v.2 (fun a b=>kk (a,b)) k0) ((0:Int),[])=k0 (m.1.2.2.1.map fun u=>(ś m.2 w u.1 u.2,u.2)):=by
 have hn:=h.good.nU
 refine yV m.1.2.2.1 (fun u:Int×Int=>((ś m.2 w u.1 u.2,u.2):Int×Int)) k0 (fun i a hi ha v kn hv=>?_) (fun v kn=>?_)<;>(try dsimp only)<;>unfold jT
 ·rw[Ó hi,È ha,h.who hw,À,Ć (Ø (by simp; omega)),Í hi (by omega)]
 ·rw[ß]
def tr_L1 (h:MOk m) (hw:ħ m.2 w) (k0:List MJ→Option ρ):Ë (fun(v:Int×List MJ) kk=>jS m w m.1.2.2.2.1 (Ú m.1.2.2.2.1) v.1 v.2 (fun a b=>kk (a,b)) k0) ((0:Int),[])=k0 (m.1.2.2.2.1.map fun l=>(ś m.2 w l.1 l.2.1.1,l.2)):=by
 have hn:=h.good.nL
 refine yV m.1.2.2.2.1 (fun l:MJ=>((ś m.2 w l.1 l.2.1.1,l.2):MJ)) k0 (fun i a hi ha v kn hv=>?_) (fun v kn=>?_)<;>(try dsimp only)<;>unfold jS
 ·rw[Ó hi,È ha,h.who hw,À,Ć (Ø (by simp; omega)),Í hi (by omega)]
 ·rw[ß]
def Cn (h:MOk m) (hw:ħ m.2 w) (d:Int) {l:List Int} (hl:l.length≤1000):i6 l d m w=some (mU m w d l):=by
 unfold i6 pr;rw[yV l (fun x:Int=>(ś m.2 w x d:Int)) (fun z=>ç (î z.length) (some (wM z))) (fun i a hi ha v kn hv=>?_) (fun v kn=>?_),Ć (Ø (by simp; omega)),PS]; rfl
 ·try dsimp only
  unfold iM;rw[Ó hi,È ha,h.who hw,À,Ć (Ø (by simp; omega)),Í hi (by omega)]
 ·try dsimp only
  unfold iM;rw[ß]
def tr_L2 (h:MOk m) (hw:ħ m.2 w) (k0:List Cmp→Option ρ):Ë (fun(v:Int×List Cmp) kk=>jR m w m.1.2.2.2.2.1 (Ú m.1.2.2.2.2.1) v.1 v.2 (fun a b=>kk (a,b)) k0) ((0:Int),[])=k0 (m.1.2.2.2.2.1.map (ae5 m w)):=by
 have hn:=h.good.nC
 refine yV m.1.2.2.2.2.1 (ae5 m w) k0 (fun i a hi ha v kn hv=>?_) (fun v kn=>?_)<;>(try dsimp only)<;>unfold jR
 ·obtain⟨p1,p2⟩:=h.good.size.piles a (cG ha);rw[Ó hi,È ha,Cn h hw _ p1,À,Cn h hw _ p2,À,Ć (Ø (by simp; omega)),Í hi (by omega)];rfl
 ·rw[ß]
def tr_L3 (h:MOk m) (hw:ħ m.2 w) (k0:List (Int×Int)→Option ρ):Ë (fun(v:Int×List (Int×Int)) kk=>jQ m w m.1.2.2.2.2.2 (Ú m.1.2.2.2.2.2) v.1 v.2 (fun a b=>kk (a,b)) k0) ((0:Int),[])=k0 (m.1.2.2.2.2.2.map fun n=>(ś m.2 w n.1 n.2,n.2)):=by
 have hn:=h.good.nK
 refine yV m.1.2.2.2.2.2 (fun n:Int×Int=>((ś m.2 w n.1 n.2,n.2):Int×Int)) k0 (fun i a hi ha v kn hv=>?_) (fun v kn=>?_)<;>(try dsimp only)<;>unfold jQ
 ·rw[Ó hi,È ha,h.who hw,À,Ć (Ø (by simp; omega)),Í hi (by omega)]
 ·rw[ß]
def ki (h:MOk m) (hw:ħ m.2 w):Ū m w=some (trP m w):=by
 have h1:=h.good.nG;unfold Ū uJ trP;rw[Ć (Ø (by omega)),tr_L0 h hw,tr_L1 h hw,tr_L2 h hw,tr_L3 h hw]
end
def XU {l:List Int} {x:Int} (h:x∈l):∃k,l.findIdx? (·==x)=some k∧l[k]?=some x:=by
 cases hf:l.findIdx? (·==x) with
 |none =>
  have:=dA.1 hf x h;simp at this
 |some k =>
  obtain⟨hk,he,_⟩:=dJ.1 hf;exact⟨k,rfl,by rw[cw hk]; simpa using he⟩
def RT {l:List Int} {x:Int} (h:x∉l):l.findIdx? (·==x)=none:=by
 rw[dA];intro y hy;simp only[beq_eq_false_iff_ne];exact fun e=>h (e▸hy)
def idx_at {l:List Int} (hn:l.Nodup) {k:Nat} {x:Int} (h:l[k]?=some x):l.findIdx? (·==x)=some k:=by
 obtain⟨j,hj,hx⟩:=XU (cG h);obtain⟨h1,e1⟩:=cB.1 h;obtain⟨h2,e2⟩:=cB.1 hx;rw[hj,(List.getElem_inj hn).1 (e2.trans e1.symm)]
def YK {d d0:Int} {l k:List Int} (hl:l.Nodup) (hk:k.Nodup) (hp:l.Perm k) (x:Int):stp d (d0,k) l (stp d (d0,l) k x)=x:=by
 unfold stp
 by_cases hd:d0<d
 ·simp only[if_pos hd]
  by_cases hx:x∈k
  ·obtain⟨i,h1,h2⟩:=XU hx;rw[h1];dsimp only
   have hi:i<l.length:=by rw[hp.length_eq]; exact(cB.1 h2).1
   have e:l[i]?=some (l.getD i 0):=by rw[dZ,cw hi]; rfl
   rw[idx_at hl e];dsimp only;rw[List.getD_eq_getElem?_getD,h2]; rfl
  ·rw[RT hx];dsimp only;rw[RT fun h=>hx (hp.subset h)]
 ·simp only[if_neg hd]
def ab7 {d:Int} {m:Mx} {l:List Int} (hp:l.Perm m.2) (x:Int):stp d m l x=x∨(m.1<d∧x∈m.2∧stp d m l x∈m.2):=by
 unfold stp
 by_cases hd:m.1<d
 ·simp only[if_pos hd]
  by_cases hx:x∈l
  ·obtain⟨i,h1,h2⟩:=XU hx;rw[h1];dsimp only
   have hi:i<m.2.length:=by rw[←hp.length_eq]; exact(cB.1 h2).1
   exact .inr ⟨hd,hp.subset hx,by rw[dZ,cw hi]; exact fc hi⟩
  ·rw[RT hx];exact .inl rfl
 ·simp only[if_neg hd];exact .inl trivial
def agZ:List Mx→Way→Int→Int→Int
 |m::ms,l::ls,x,d=>agZ ms ls (stp d (m.1,l) m.2 x) d
 |_,_,x,_=>x
def aeO {l:List Int} (h:l.Pairwise (·<·)):l.Nodup:=h.imp fun h=>Int.ne_of_lt h
def abS:∀{ms:List Mx} {w:Way},ħ ms w→(∀x∈ms,x.2.Nodup)→∀x d,ś ms w (agZ ms w x d) d=x
 |[],[],_,_,x,d=>rfl
 |m::ms,l::ls,h,hn,x,d=>by
  rw[agZ,ś,abS h.2 fun y hy=>hn y (dh _ hy)];exact YK (d0:=m.1) (h.1.nodup_iff.2 (hn m (by simp))) (hn m (by simp)) h.1 x
def XM:∀{ms:List Mx} {w:Way},ħ ms w→(∀x∈ms,x.2.Nodup)→∀x d,agZ ms w (ś ms w x d) d=x
 |[],[],_,_,x,d=>rfl
 |m::ms,l::ls,h,hn,x,d=>by
  rw[agZ,ś];have:=YK (d:=d) (d0:=m.1) (l:=m.2) (k:=l) (hn m (by simp)) (h.1.nodup_iff.2 (hn m (by simp))) h.1.symm (ś ms ls x d);rw[show stp d (m.1,l) m.2 (stp d m l (ś ms ls x d))=_ from this];exact XM h.2 (fun y hy=>hn y (dh _ hy)) x d
def Wm:∀{ms:List Mx} {w:Way} (Q:Int→Prop) {d:Int},ħ ms w→(∀m∈ms,m.1<d→∀x∈m.2,Q x)→∀{x:Int},Q x→Q (ś ms w x d)
 |[],[],Q,d,_,_,x,hx=>hx
 |m::ms,l::ls,Q,d,h,hm,x,hx=>by
  have:=Wm (x:=x) Q h.2 (fun y hy=>hm y (dh _ hy)) hx;rw[ś];rcases ab7 (d:=d) h.1 (ś ms ls x d) with e|⟨e1,_,e2⟩
  ·rw[e]; exact this
  ·exact hm m (by simp) e1 _ e2
def Ch:∀{ms:List Mx} {w:Way} {d:Int},ħ ms w→∀{x:Int},(∀m∈ms,m.1<d→x∉m.2)→ś ms w x d=x
 |[],[],d,_,x,_=>rfl
 |m::ms,l::ls,d,h,x,hm=>by
  rw[ś,Ch h.2 fun y hy=>hm y (dh _ hy)];rcases ab7 (d:=d) h.1 x with e|⟨e1,e2,_⟩
  ·exact e
  ·exact absurd e2 (hm m (by simp) e1)
def SL:∀{ms:List Mx} {w:Way} {d e:Int},ħ ms w→ms.Pairwise (fun a b=>a.1<b.1)→d≤e→∀{x:Int},(∀m∈ms,d≤m.1→m.1<e→x∉m.2)→ś ms w x e=ś ms w x d
 |[],[],d,e,_,_,_,x,_=>rfl
 |m::ms,l::ls,d,e,h,hs,hde,x,hm=>by
  rw[dk] at hs;rcases gQ m.1 d with hlt|hge
  ·rw[ś,ś,SL h.2 hs.2 hde fun y hy=>hm y (dh _ hy)]
   have e1:∀y,stp e m l y=stp d m l y:=fun y=>by unfold stp; rw[if_pos hlt,if_pos (by omega)]
   exact e1 _
  ·have e1:ś (m::ms) (l::ls) x e=x:=Ch h fun y hy hye=>by
    rcases cF.1 hy with rfl|hy'
    ·exact hm y (by simp) hge hye
    ·exact hm y hy (by have:=hs.1 y hy'; omega) hye
   have e2:ś (m::ms) (l::ls) x d=x:=Ch h fun y hy hyd=>by
    rcases cF.1 hy with rfl|hy'
    ·omega
    ·have:=hs.1 y hy'; omega
   rw[e1,e2]
def sO {b:Ď} (hi:b.2.1.Pairwise fun a b=>a.1<b.1) {id day:Int}:mY (Ŕ b) id day=0↔∃g,ö b id=some g∧g.2.1≤day:=by
 rw[←Wy hi];unfold GO
 cases ö b id with
 |none=>simp
 |some g =>
  dsimp only
  by_cases h:day<g.2.1
  ·rw[if_pos h]; simp; omega
  ·rw[if_neg h]; simp; omega
def Ci {b:Ď} (hi:b.2.1.Pairwise fun a b=>a.1<b.1) {id day:Int}:GH (Ŕ b) id day=0↔I0 day=true∧∃g,ö b id=some g∧g.2.1≤day:=by
 unfold GH
 cases I0 day with
 |false=>simp
 |true=>simp[sO hi]
def Ve {b:Ď} (hi:b.2.1.Pairwise fun a b=>a.1<b.1) {i:Nat} {l:MJ}:RK b (Ŕ b) i l=0↔l5 l.2.1 0 20000=true∧inP l.2.2 0 1048576=true∧(∃g,ö b l.1=some g∧g.2.1≤l.2.1.1) ∧
 (∀x∈b.2.2.2.1.take i,x.1=l.1→¬(x.2.1.1≤l.2.1.2∧l.2.1.1≤x.2.1.2))∧∀u∈b.2.2.1,u.1=l.1→inP u.2 l.2.1.1 l.2.1.2=false:=by
 unfold RK;rw[←sO hi]
 cases l5 l.2.1 0 20000 with
 |false=>simp
 |true =>
  cases inP l.2.2 0 1048576 with
  |false=>simp
  |true =>
   by_cases h:mY (Ŕ b) l.1 l.2.1.1=0
   ·simp only[h,dw,cQ,if_false,bne_self_eq_false,true_and]
    split
    ·rename_i h1;simp only[dc,cA,beq_iff_eq,decide_eq_true_eq] at h1;obtain⟨x,hx,e1,e2⟩:=h1;exact⟨fun e=>absurd e (by decide),fun e=>absurd e2 (e.1 x hx e1)⟩
    ·rename_i h1;simp only[dc,cA,beq_iff_eq,decide_eq_true_eq,not_exists,not_and] at h1
     split
     ·rename_i h2;simp only[dc,cA,beq_iff_eq] at h2;obtain⟨u,hu,e1,e2⟩:=h2;exact⟨fun e=>absurd e (by decide),fun e=>by have:=e.2 u hu e1; rw[e2] at this; cases this⟩
     ·rename_i h2;simp only[dc,cA,beq_iff_eq,not_exists,not_and] at h2;exact⟨fun _=>⟨fun x hx e ⟨p,q⟩=>h1 x hx e p q,fun u hu e=>by simpa using h2 u hu e⟩,fun _=>rfl⟩
   ·simp[h]
def OB {b:Ď} (hi:b.2.1.Pairwise fun a b=>a.1<b.1) {c:Cmp}:wS b (Ŕ b) c=0↔(∀x∈c.2.2.1++c.2.2.2.1,(∃g,ö b x=some g∧g.2.1≤c.2.1)∧lK b x c.2.1=none) ∧
 (þ c.2.2.1 c.2.2.2.1).length≤1∧(þ c.2.2.2.1 c.2.2.1).length≤1∧(þ c.2.2.1 c.2.2.2.1).length+(þ c.2.2.2.1 c.2.2.1).length≠0:=by
 unfold wS;constructor
 ·intro h
  split at h
  ·cases h
  rename_i h1
  split at h
  ·cases h
  rename_i h2
  split at h
  ·cases h
  rename_i h3
  split at h
  ·cases h
  split at h
  ·cases h
  split at h
  ·cases h
  simp only[dc,not_exists,not_and,beq_iff_eq] at h1 h2;simp only[dc,not_exists,not_and,Option.isSome_iff_ne_none,ne_eq,Decidable.not_not] at h3;refine⟨fun x hx=>⟨(sO hi).1 ?_,h3 x hx⟩,by omega,by omega,by omega⟩;rcases JJ (Ŕ b) x c.2.1 with e|e|e
  ·exact e
  ·exact absurd e (h2 x hx)
  ·exact absurd e (h1 x hx)
 ·intro⟨h1,h2,h3,h4⟩;have hz:∀x∈c.2.2.1++c.2.2.2.1,mY (Ŕ b) x c.2.1=0:=fun x hx=>(sO hi).2 (h1 x hx).1;rw[if_neg,if_neg,if_neg,if_neg (by omega),if_neg (by omega),if_neg h4]
  ·simp only[dc,not_exists,not_and,Option.isSome_iff_ne_none,ne_eq,Decidable.not_not];exact fun x hx=>(h1 x hx).2
  ·simp only[dc,not_exists,not_and,beq_iff_eq]
   exact fun x hx e=>by rw[hz x hx] at e; cases e
  ·simp only[dc,not_exists,not_and,beq_iff_eq]
   exact fun x hx e=>by rw[hz x hx] at e; cases e
def Gz {b:Ď} {x d:Int}:lK b x d=none↔∀l∈b.2.2.2.1,l.1=x→inP d l.2.1.1 l.2.1.2=false:=by
 unfold lK;rw[List.find?_eq_none];simp
def wT {m:Ĺ} {w:Way} {d:Int} {l:List Int} {y:Int}:y∈mU m w d l↔∃x∈l,ś m.2 w x d=y:=by
 unfold mU;rw[(Ş _).mem_iff,List.mem_map]
section
variable {m:Ĺ} {w:Way}
def MOk.nd (h:MOk m):∀x∈m.2,x.2.Nodup:=fun x hx=>aeO (h.mix hx).asc
def MOk.inj (h:MOk m) (hw:ħ m.2 w) {d x y:Int} (e:ś m.2 w x d=ś m.2 w y d):x=y:=by
 rw[←XM hw h.nd x d,e,XM hw h.nd]
def MOk.whoG (h:MOk m) (hw:ħ m.2 w) {d x:Int} (hx:∃g,ö m.1 x=some g∧g.2.1≤d):∃g,ö m.1 (ś m.2 w x d)=some g∧g.2.1≤d :=
 Wm (fun y=>∃g,ö m.1 y=some g∧g.2.1≤d) hw (fun y hy hd z hz=>by
  obtain⟨g,h1,h2⟩:=(h.mix hy).known z hz
  exact⟨g,h1,by omega⟩) hx
def MOk.made (h:MOk m) (hw:ħ m.2 w) {x:Int} {g:ÿ} (hg:ö m.1 x=some g):ś m.2 w x g.2.1=x :=
 Ch hw fun y hy hd hx=>by
  obtain⟨g',h1,h2⟩:=(h.mix hy).known x hx;rw[hg] at h1; cases h1;omega
def MOk.loan (h:MOk m) (hw:ħ m.2 w) {l:MJ} (hl:l∈m.1.2.2.2.1) {d:Int} (hd:inP d l.2.1.1 l.2.1.2=true):ś m.2 w l.1 d=ś m.2 w l.1 l.2.1.1:=by
 simp only[inP,cA,decide_eq_true_eq] at hd;refine SL hw h.days hd.1 fun y hy h1 h2 hx=>?_;have:=(Gz.1 ((h.mix hy).home _ hx).1) l hl rfl;simp only[inP,gL,decide_eq_false_iff_not] at this;omega
def adn (h:MOk m) (hw:ħ m.2 w) (d:Int) (A B:List Int):(þ (mU m w d A) (mU m w d B)).Perm ((þ A B).map fun x=>ś m.2 w x d):=by
 unfold þ;refine((Ş _).filter _).trans ?_;rw[List.filter_map];refine List.Perm.of_eq ?_;congr 1;refine List.filter_congr fun x hx=>?_;simp only[Function.comp];congr 1;rw[Bool.eq_iff_iff,List.contains_iff_mem,List.contains_iff_mem,wT];exact⟨fun⟨y,hy,e⟩=>h.inj hw e▸hy,fun hy=>⟨x,hy,rfl⟩⟩
def Y3 (h:MOk m) (hw:ħ m.2 w) {d:Int} {l:List Int} (hp:wU l=true) (hk:∀x∈l,∃g,ö m.1 x=some g∧g.2.1≤d):wU (mU m w d l)=true:=by
 obtain⟨h1,h2,h3⟩:=(Jn l).1 hp;refine(Jn _).2 ⟨fun y hy=>?_,?_,by unfold mU; rw[(Ş _).length_eq,List.length_map]; exact h3⟩
 ·obtain⟨x,hx,rfl⟩:=wT.1 hy;obtain⟨g,hg,_⟩:=h.whoG hw (hk x hx);obtain⟨g1,g2⟩:=ig hg;have:=(h.good.gaugeR g1).2.2.2.1;rw[←g2]; exact this
 ·have hnd:(mU m w d l).Nodup:=by
   unfold mU;rw[(Ş _).nodup_iff];exact List.pairwise_map.2 (h2.imp fun hlt e=>by have:=h.inj hw e; omega)
  exact((lh _).and hnd).imp fun⟨a,b⟩=>Int.lt_iff_le_and_ne.2 ⟨a,b⟩
def ahm (h:MOk m) (hw:ħ m.2 w) {x d:Int} (ha:lK m.1 x d=none):lK (trP m w) (ś m.2 w x d) d=none:=by
 rw[Gz];intro l' hl' e;obtain⟨l,hl,rfl⟩:=dj.1 hl'
 cases hd:inP d l.2.1.1 l.2.1.2 with
 |false=>rfl
 |true =>
  rw[←h.loan hw hl hd] at e;have:=Gz.1 ha l hl (h.inj hw e);rw[hd] at this; cases this
def uE {b:Ď} (hi:b.2.1.Pairwise fun a b=>a.1<b.1):(É b).Nodup:=by
 unfold É List.Nodup;rw[List.pairwise_flatMap];refine⟨fun g _=>List.pairwise_map.2 ((vP b g).imp fun h e=>by cases e; omega),hi.imp fun hlt x hx y hy e=>?_⟩;obtain⟨d,_,rfl⟩:=List.mem_map.1 hx;obtain⟨d',_,rfl⟩:=List.mem_map.1 hy;simp only[Prod.mk.injEq] at e;omega
def mW {b:Ď} {x d:Int}:(x,d)∈É b↔∃g∈b.2.1,g.1=x∧d∈ã b g:=by
 unfold É;simp only[List.mem_flatMap,List.mem_map];constructor
 ·rintro⟨g,hg,d',hd,e⟩;cases e;exact⟨g,hg,rfl,hd⟩
 ·rintro⟨g,hg,rfl,hd⟩;exact⟨g,hg,d,hd,rfl⟩
def zo (h:MOk m) (hw:ħ m.2 w) {d:Int} {A:List Int} {x:Int}:(mU m w d A).contains (ś m.2 w x d)=A.contains x:=by
 rw[gz,fh,fh,wT];exact⟨fun⟨y,hy,e⟩=>h.inj hw e▸hy,fun hy=>⟨x,hy,rfl⟩⟩
def Wr (h:MOk m) (hw:ħ m.2 w) {x d:Int} (hn:(x,d)∈É m.1):(ś m.2 w x d,d)∈É (trP m w):=by
 obtain⟨g,hg,rfl,hd⟩:=mW.1 hn;have hgo:=vG h.good.ids hg;obtain⟨g',e1,_⟩:=h.whoG hw (x:=g.1) (d:=d) ⟨g,hgo,(h.good.day hg hd).1⟩;obtain⟨e2,e3⟩:=ig e1;refine mW.2 ⟨g',e2,e3,Ž.2 ?_⟩;rcases Ž.1 hd with rfl|⟨c,hc,e4,rfl⟩|⟨n,hnn,e4,rfl⟩
 ·rw[h.made hw hgo,hgo] at e1;cases e1;exact .inl rfl
 ·refine .inr (.inl ⟨ae5 m w c,dj.2 ⟨c,hc,rfl⟩,?_,rfl⟩);rw[e3];show(mU m w c.2.1 c.2.2.1).contains _≠(mU m w c.2.1 c.2.2.2.1).contains _;rw[zo h hw,zo h hw];exact e4
 ·exact .inr (.inr ⟨_,dj.2 ⟨n,hnn,rfl⟩,by rw[e3,e4],rfl⟩)
def GJ (h:MOk m) (hw:ħ m.2 w) {y d:Int} (hn:(y,d)∈É (trP m w)):∃x,ś m.2 w x d=y∧(x,d)∈É m.1:=by
 obtain⟨g,hg,rfl,hd⟩:=mW.1 hn;have hg:g∈m.1.2.1:=hg;have hgo:=vG h.good.ids hg;have hx:ś m.2 w (agZ m.2 w g.1 d) d=g.1:=abS hw h.nd _ _
 have fin:∀x,ś m.2 w x d=g.1→(∃g',ö m.1 x=some g')→(∀g':ÿ,g'.1=x→d∈ã m.1 g')→∃x,ś m.2 w x d=g.1∧(x,d)∈É m.1:=fun x e ⟨g',e1⟩ e2=>by
  obtain⟨e3,e4⟩:=ig e1;exact⟨x,e,mW.2 ⟨g',e3,e4,e2 g' e4⟩⟩
 rcases Ž.1 hd with e|⟨c',hc',e4,e5⟩|⟨n',hn',e4,e5⟩
 ·subst e;exact⟨g.1,h.made hw hgo,mW.2 ⟨g,hg,rfl,rQ g⟩⟩
 ·obtain⟨c,hc,rfl⟩:=dj.1 hc';have e5:c.2.1=d:=e5;subst e5;have e4:(mU m w c.2.1 c.2.2.1).contains g.1≠(mU m w c.2.1 c.2.2.2.1).contains g.1:=e4;rw[←hx,zo h hw,zo h hw] at e4;refine fin _ hx ?_ fun g' e=>Ž.2 (.inr (.inl ⟨c,hc,by rw[e]; exact e4,rfl⟩))
  have:agZ m.2 w g.1 c.2.1∈c.2.2.1++c.2.2.2.1:=by
   rw[cE,←fh,←fh]
   cases h1:c.2.2.1.contains (agZ m.2 w g.1 c.2.1) with
   |true=>exact .inl rfl
   |false =>
    rw[h1] at e4;exact .inr (by simpa using e4)
  obtain⟨⟨g',e,_⟩,_⟩:=h.good.pile hc this;exact⟨g',e⟩
 ·obtain⟨n,hnl,rfl⟩:=dj.1 hn';have e5:n.2=d:=e5;have e4:ś m.2 w n.1 n.2=g.1:=e4;subst e5;obtain⟨_,g',e,_⟩:=(Ci h.good.ids).1 (h.good.looks n hnl);exact fin n.1 e4 ⟨g',e⟩ fun g'' e=>Ž.2 (.inr (.inr ⟨n,hnl,e.symm,rfl⟩))
def rZ (m:Ĺ) (w:Way) (n:Int×Int):Int×Int:=(ś m.2 w n.1 n.2,n.2)
def ab5 (h:MOk m):(trP m w).2.1.Pairwise fun a b=>a.1<b.1:=h.good.ids
def agP (h:MOk m) (hw:ħ m.2 w):(É (trP m w)).length=(É m.1).length:=by
 have h1:(É (trP m w)).length≤((É m.1).map (rZ m w)).length:=dO (uE (ab5 h)) fun n hn=>by
  obtain⟨x,e,hx⟩:=GJ (y:=n.1) (d:=n.2) h hw hn;exact dj.2 ⟨(x,n.2),hx,Prod.ext e rfl⟩
 have h2:((É m.1).map (rZ m w)).length≤(É (trP m w)).length:=by
  have hnd:((É m.1).map (rZ m w)).Nodup:=by
   refine List.pairwise_map.2 ((uE h.good.ids).imp ?_);intro a b hne e;unfold rZ at e;simp only[Prod.mk.injEq] at e;obtain⟨e1,e2⟩:=e;rw[e2] at e1;exact hne (Prod.ext (h.inj hw e1) e2)
  refine dO hnd fun n hn=>?_;obtain⟨⟨x,d⟩,hx,rfl⟩:=dj.1 hn;exact Wr h hw hx
 rw[dl] at h1 h2;omega
def lY (h:MOk m) (hw:ħ m.2 w):ū (trP m w):=by
 have hg:=h.good;have hids:=ab5 (w:=w) h;have hsh:Ŕ (trP m w)=Ŕ m.1:=rfl;have hgo:∀x,ö (trP m w) x=ö m.1 x:=fun _=>rfl;have hlen:=agP h hw;refine⟨hg.film,hg.nG,by simpa[trP] using hg.nU,by simpa[trP] using hg.nL,by simpa[trP] using hg.nC,by simpa[trP] using hg.nK,hg.gauge,hids,?_,?_,?_,?_,by rw[hlen]; exact hg.nodes,by rw[hlen]; simpa[trP] using hg.links⟩
 ·intro u' hu';obtain⟨u,hu,rfl⟩:=dj.1 hu';obtain⟨e1,e2⟩:=(Ci hg.ids).1 (hg.uses u hu);exact(Ci hids).2 ⟨e1,h.whoG hw e2⟩
 ·intro i l' hl'
  obtain⟨l,hl,rfl⟩:∃l,m.1.2.2.2.1[i]?=some l∧(ś m.2 w l.1 l.2.1.1,l.2)=l':=by
   have:(m.1.2.2.2.1.map (fun l:MJ=>(ś m.2 w l.1 l.2.1.1,l.2)))[i]?=some l':=hl';rw[ej] at this
   cases hx:m.1.2.2.2.1[i]? with
   |none=>rw[hx] at this; cases this
   |some l=>rw[hx] at this; exact⟨l,rfl,by simpa using this⟩
  have hlm:=cG hl;obtain⟨e1,e2,e3,e4,e5⟩:=(Ve hg.ids).1 (hg.loans i l hl);refine(Ve hids).2 ⟨e1,e2,h.whoG hw e3,fun x' hx' ex hov=>?_,fun u' hu' eu=>?_⟩
  ·have hx':x'∈(m.1.2.2.2.1.map (fun l:MJ=>(ś m.2 w l.1 l.2.1.1,l.2))).take i:=hx';rw[←List.map_take] at hx';obtain⟨x,hx,rfl⟩:=List.mem_map.1 hx';have hxm:=List.mem_of_mem_take hx;have s1:=(tT hg hxm).1;have s2:=(tT hg hlm).1;dsimp only at ex hov
   have d1:inP (max x.2.1.1 l.2.1.1) x.2.1.1 x.2.1.2=true:=by simp[inP]; omega
   have d2:inP (max x.2.1.1 l.2.1.1) l.2.1.1 l.2.1.2=true:=by simp[inP]; omega
   rw[←h.loan hw hxm d1,←h.loan hw hlm d2] at ex;exact e4 x hx (h.inj hw ex) hov
  ·obtain⟨u,hu,rfl⟩:=List.mem_map.1 hu';dsimp only at eu ⊢
   cases hd:inP u.2 l.2.1.1 l.2.1.2 with
   |false=>rfl
   |true =>
    rw[←h.loan hw hlm hd] at eu;have:=e5 u hu (h.inj hw eu);rw[hd] at this; cases this
 ·intro i c' hc'
  obtain⟨c,hc,rfl⟩:∃c,m.1.2.2.2.2.1[i]?=some c∧ae5 m w c=c':=by
   have:(m.1.2.2.2.2.1.map (ae5 m w))[i]?=some c':=hc';rw[ej] at this
   cases hx:m.1.2.2.2.2.1[i]? with
   |none=>rw[hx] at this; cases this
   |some l=>rw[hx] at this; exact⟨l,rfl,by simpa using this⟩
  have hcm:=cG hc;obtain⟨n1,n2,n3,n4,n5,n6,n7⟩:=(kH c).1 (hg.nums hcm);have hp:=(OB hg.ids).1 (hg.pilesOf hcm);have hk:∀x∈c.2.2.1++c.2.2.2.1,∃g,ö m.1 x=some g∧g.2.1≤c.2.1:=fun x hx=>(hp.1 x hx).1;have hnum:aaK (ae5 m w c)=true:=(kH _).2 ⟨n1,n2,n3,n4,n5,Y3 h hw n6 fun x hx=>hk x (dt _ hx),Y3 h hw n7 fun x hx=>hk x (dm _ hx)⟩;have l1:=(adn h hw c.2.1 c.2.2.1 c.2.2.2.1).length_eq;have l2:=(adn h hw c.2.1 c.2.2.2.1 c.2.2.1).length_eq;rw[dl] at l1 l2
  have hpi:wS (trP m w) (Ŕ (trP m w)) (ae5 m w c)=0:=by
   refine(OB hids).2 ⟨fun y hy=>?_,?_,?_,?_⟩
   ·have hy:y∈mU m w c.2.1 c.2.2.1++mU m w c.2.1 c.2.2.2.1:=hy
    obtain⟨x,hx,rfl⟩:∃x∈c.2.2.1++c.2.2.2.1,ś m.2 w x c.2.1=y:=by
     rcases cE.1 hy with hy|hy
     ·obtain⟨x,hx,e⟩:=wT.1 hy;exact⟨x,dt _ hx,e⟩
     ·obtain⟨x,hx,e⟩:=wT.1 hy;exact⟨x,dm _ hx,e⟩
    exact⟨h.whoG hw (hk x hx),ahm h hw (hp.1 x hx).2⟩
   ·show(þ (mU m w c.2.1 c.2.2.1) (mU m w c.2.1 c.2.2.2.1)).length≤1;rw[l1]; exact hp.2.1
   ·show(þ (mU m w c.2.1 c.2.2.2.1) (mU m w c.2.1 c.2.2.1)).length≤1;rw[l2]; exact hp.2.2.1
   ·show(þ (mU m w c.2.1 c.2.2.1) (mU m w c.2.1 c.2.2.2.1)).length+(þ (mU m w c.2.1 c.2.2.2.1) (mU m w c.2.1 c.2.2.1)).length≠0;rw[l1,l2]; exact hp.2.2.2
  have h0:=hg.compares i c hc;unfold oO at h0 ⊢;rw[hg.nums hcm] at h0;rw[hnum,hpi]
  have ht:((trP m w).2.2.2.2.1.take i).any (fun x=>x.1==(ae5 m w c).1)=(m.1.2.2.2.2.1.take i).any fun x=>x.1==c.1:=by
   show((m.1.2.2.2.2.1.map (ae5 m w)).take i).any _=_;rw[←List.map_take,List.any_map]; rfl
  rw[ht];simp only[dw,cQ,if_false] at h0 ⊢
  split at h0
  ·cases h0
  ·rename_i h1; rw[if_neg h1]
 ·intro n' hn';obtain⟨n,hn,rfl⟩:=dj.1 hn';obtain⟨e1,e2⟩:=(Ci hg.ids).1 (hg.looks n hn);exact(Ci hids).2 ⟨e1,h.whoG hw e2⟩
end
section
variable {L:List Lk} {N:Nat}
def SI (h:ž L N):mP ((N:Int),L)=some (Μ L N,0):=by
 have h2:=h.n60;unfold mP sh;rw[jn h,À];dsimp only;rw[Î (by rfl),pm h.links h.n1 (by omega),À]
 cases Μ L N<;>rfl
end
def Yu (x y:List Int):List Int×List Int×Int:=if !wU x then([],[],1) else if !wU y then([],[],1) else(þ x y,þ y x,0)
def aeZ {x y:List Int} (hx:x.length≤100000) (hy:y.length≤100000):pf x y=some (Yu x y):=by
 unfold pf F9 Yu;rw[Ec (by omega),À]
 cases wU x with
 |false=>rfl
 |true =>
  rw[Ec (by omega),À]
  cases wU y with
  |false=>rfl
  |true =>
   rw[yi (by omega) (by omega),À,yi (by omega) (by omega),À];rfl
def less (b:Ď) (ids:List Int):Ď:=(b.1,b.2.1,b.2.2.1,b.2.2.2.1,b.2.2.2.2.1.filter (fun c=>!ids.contains c.1),b.2.2.2.2.2)
section
variable {b:Ď} {ids:List Int}
def ū.distinct (h:ū b):b.2.2.2.2.1.Pairwise fun a c=>a.1≠c.1:=by
 rw[List.pairwise_iff_getElem];intro i j hi hj hij he;have hz:=h.compares j _ (List.getElem?_eq_getElem hj);unfold oO at hz
 have hany:(b.2.2.2.2.1.take j).any (fun x=>x.1==b.2.2.2.2.1[j].1)=true:=by
  rw[dc];exact⟨b.2.2.2.2.1[i],cM.2 ⟨i,by rw[cT]; omega,by rw[eQ]⟩,by simp[he]⟩
 rw[hany] at hz
 (repeat' split at hz)<;>first|omega|simp_all
def adD {α β:Type} (f g:α→List β):∀l:List α,(∀a∈l,(f a).length≤(g a).length)→(l.flatMap f).length≤(l.flatMap g).length
 |[],_=>cz _
 |a::l,h=>by
  rw[dz,dz,cD,cD];have:=h a (by simp);have:=adD f g l fun c hc=>h c (by simp[hc]);omega
def lt_len:∀{x y:List Int},x.Pairwise (·<·)→(∀a∈x,a∈y)→x.length≤y.length:=by
 intro x y hx h;exact(dO (hx.imp fun h=>by omega) h)
def ū.less (h:ū b) (ids:List Int):ū (less b ids):=by
 have hsub:∀c∈(ZzM.less b ids).2.2.2.2.1,c∈b.2.2.2.2.1:=fun c hc=>(dP.1 hc).1;have hlen:(ZzM.less b ids).2.2.2.2.1.length≤b.2.2.2.2.1.length:=dX _ _
 have hdays:∀g,(ã (ZzM.less b ids) g).length≤(ã b g).length:=fun g=>lt_len (vP _ g) fun d hd=>by
  rcases Ž.1 hd with e|⟨c,hc,h1,h2⟩|hn
  ·exact Ž.2 (.inl e)
  ·exact Ž.2 (.inr (.inl ⟨c,hsub c hc,h1,h2⟩))
  ·exact Ž.2 (.inr (.inr hn))
 have hnodes:(É (ZzM.less b ids)).length≤(É b).length:=adD _ _ _ fun g _=>by rw[dl,dl]; exact hdays g
 have hN:=h.nodes;have hC:=h.nC;refine⟨h.film,h.nG,h.nU,h.nL,Nat.le_trans hlen h.nC,h.nK,h.gauge,h.ids,h.uses,h.loans,fun i c hc=>?_,h.looks,Nat.le_trans hnodes hN,by omega⟩;have hcm:=hsub c (List.mem_of_getElem? hc);obtain⟨j,hj,hjc⟩:=List.mem_iff_getElem.1 hcm;have hz:=h.compares j c (by rw[List.getElem?_eq_getElem hj,hjc]);unfold oO at hz ⊢
 split at hz
 ·omega
 rename_i h1
 split at hz
 ·omega
 rw[if_neg h1,if_neg ?_]
 ·exact hz
 ·intro hany;obtain⟨x,hx,he⟩:=dc.1 hany;obtain⟨k,hk,hkx⟩:=cM.1 hx;rw[cT] at hk;rw[eQ] at hkx;obtain⟨hi,hic⟩:=cB.1 hc;have hp:=df.1 ((h.distinct.sublist List.filter_sublist:(ZzM.less b ids).2.2.2.2.1.Pairwise fun a c=>a.1≠c.1)) k i (by omega) hi (by omega);rw[hkx,hic] at hp;exact hp (eq_of_beq he)
end
abbrev zC:Cmp:=((0:Int),(0:Int),[],[],(0:Int),(0:Int),(0:Int),(0:Int))
section
variable {ρ α:Type}
def adY (z0:α) (K:List α→Option ρ) (z:Int×List α):Option ρ :=
 ç ((ile (0:Int) z.1)&&(ile z.1 (ñ z.2))) (ç ((ile (0:Int) z.1)&&(ile z.1 (ñ (List.take (Int.toNat z.1) z.2++List.replicate (List.length z.2-(Int.toNat z.1)) z0++List.drop ((Int.toNat z.1)+(List.length z.2-(Int.toNat z.1))) z.2))))
  (K (List.take (Int.toNat z.1) (List.drop 0 (List.take (Int.toNat z.1) z.2++List.replicate (List.length z.2-(Int.toNat z.1)) z0++List.drop ((Int.toNat z.1)+(List.length z.2-(Int.toNat z.1))) z.2)))))
def X8 (z0:α) (K:List α→Option ρ) {i:Nat} {s:List α} (h:i≤s.length):adY z0 K ((i:Int),s)=K (s.take i):=by
 unfold adY
 have g1:((ile (0:Int) (i:Int))&&(ile (i:Int) (ñ s)))=true:=by simp[ile,ñ]; omega
 dsimp only;rw[Ć g1]
 have g2:((ile (0:Int) (i:Int))&&(ile (i:Int) (ñ (List.take (Int.toNat (i:Int)) s++List.replicate (List.length s-(Int.toNat (i:Int))) z0++List.drop ((Int.toNat (i:Int))+(List.length s-(Int.toNat (i:Int)))) s))))=true:=by
  simp[ile,ñ]; omega
 rw[Ć g2,cP,List.drop_zero,cJ,ft (by simp; omega),List.take_take,Nat.min_self]
def abi (p:α→Bool) {a:List α} {F:Int→Int→List α→(Int→Int→List α→Option ρ)→Option ρ} {k0:Int×List α→Option ρ} {K:List α→Option ρ}
 (hF:∀(i j:Nat) (s:List α) (x:α),s.length=a.length→i<j→j<s.length→s[j]?=some x→x∈a→∀kn,F i j s kn=if p x then kn ((i:Int)+1) ((j:Int)+1) (s.set i x) else kn i ((j:Int)+1) s)
 (hE:∀(i:Nat) (s:List α) kn,i≤s.length→s.length=a.length→F i s.length s kn=k0 ((i:Int),s)) (hk:∀(i:Nat) (s:List α),i≤s.length→k0 ((i:Int),s)=K (s.take i))
 {z:Nat} (hz:z<a.length) (hp:∀x∈a.take z,p x=true) (hc:∀c,a[z]?=some c→p c=false) :
 Ë (fun(v:Int×Int×List α) kk=>F v.1 v.2.1 v.2.2 (fun x y w=>kk (x,y,w))) ((z:Int),((z:Int)+1),a)=K (a.filter p):=by
 refine Ě (fun x:Int×Int×List α=>∃i j:Nat,x.1=i∧x.2.1=j∧i<j∧j≤a.length∧x.2.2.length=a.length∧x.2.2.take i=(a.take j).filter p∧x.2.2.drop j=a.drop j) (fun x=>a.length-x.2.1.toNat) ?_
  ⟨z,z+1,rfl,by simp,by omega,by omega,rfl,?_,rfl⟩
 ·rintro⟨x1,x2,s⟩ ⟨i,j,h1,h2,hij,hja,hl,ht,hd⟩;simp only at h1 h2 hl ht hd;subst h1 h2;rcases cV j a.length with hj|hj
  ·refine .inr ?_
   have hsj:s[j]?=some a[j]:=by
    have h3:(s.drop j)[0]?=(a.drop j)[0]?:=by rw[hd]
    rw[d8,d8] at h3;simpa[cw hj] using h3
   have hta:(a.take (j+1)).filter p=(a.take j).filter p++if p a[j] then[a[j]] else[]:=by
    rw[take_succ (cw hj),eN];congr 1
    cases h:p a[j]<;>simp[h]
   have hdd:s.drop (j+1)=a.drop (j+1):=by
    have:=congrArg (List.drop 1) hd;simpa[fO,Nat.add_comm] using this
   have hf:=hF i j s a[j] hl hij (by omega) hsj (fc hj)
   cases h:p a[j] with
   |false =>
    refine⟨(i,(j:Int)+1,s),⟨i,j+1,rfl,by simp,by omega,by omega,hl,?_,hdd⟩,by simp; omega,fun kn=>by dsimp only; rw[hf,h]; rfl⟩;rw[hta,h]; simpa using ht
   |true =>
    have his:i<s.length:=by omega
    refine⟨((i:Int)+1,(j:Int)+1,s.set i a[j]),⟨i+1,j+1,by simp,by simp,by omega,by omega,by simpa using hl,?_,?_⟩,by simp; omega,fun kn=>by dsimp only; rw[hf,h]; rfl⟩
    ·show List.take (i+1) (s.set i a[j])=_;rw[hta,h,List.take_add_one,fK,List.take_set_of_le (cz i),ht];simp[his]
    ·show List.drop (j+1) (s.set i a[j])=_;rw[List.drop_set_of_lt (by omega)];exact hdd
  ·refine .inl fun kn=>?_
   have hje:j=s.length:=by omega
   try dsimp only
   rw[hje,hE i s _ (by omega) hl,hk i s (by omega),ht,dT (by omega)]
 ·show List.take z a=(a.take (z+1)).filter p;have hz':a[z]?=some a[z]:=cw hz;rw[take_succ hz',eN,gy.2 hp];simp[hc _ hz']
def X7 (p:α→Bool) {a:List α} {F1:Int→(Int→Option ρ)→Option ρ} {F:Int→Int→List α→(Int→Int→List α→Option ρ)→Option ρ} {k0:Int×List α→Option ρ} {K:List α→Option ρ} {kf:Int→Option ρ} {kend:Option ρ}
 (h1:∀(i:Nat) (x:α),i<a.length→a[i]?=some x→∀kn,F1 i kn=if !p x then kf i else kn ((i:Int)+1)) (h1e:∀kn,F1 a.length kn=kend) (hend:kend=K a)
 (hkf:∀z:Nat,z<a.length→kf z=Ë (fun(v:Int×Int×List α) kk=>F v.1 v.2.1 v.2.2 (fun x y w=>kk (x,y,w))) ((z:Int),((z:Int)+1),a))
 (hF:∀(i j:Nat) (s:List α) (x:α),s.length=a.length→i<j→j<s.length→s[j]?=some x→x∈a→∀kn,F i j s kn=if p x then kn ((i:Int)+1) ((j:Int)+1) (s.set i x) else kn i ((j:Int)+1) s)
 (hE:∀(i:Nat) (s:List α) kn,i≤s.length→s.length=a.length→F i s.length s kn=k0 ((i:Int),s)) (hk:∀(i:Nat) (s:List α),i≤s.length→k0 ((i:Int),s)=K (s.take i)):Ë F1 0=K (a.filter p):=by
 rw[jF a (fun x=>!p x) kf kend h1 h1e]
 cases hf:a.findIdx? (fun x=>!p x) with
 |none =>
  dsimp only;rw[hend,List.filter_eq_self.2];intro x hx;have:=List.findIdx?_eq_none_iff.1 hf x hx;simpa using this
 |some z =>
  obtain⟨hz,hcz,hlt⟩:=List.findIdx?_eq_some_iff_getElem.1 hf;dsimp only;rw[hkf z hz];refine abi p hF hE hk hz (fun x hx=>?_) (fun c hc=>?_)
  ·obtain⟨j,hj,rfl⟩:=cM.1 hx;rw[cT] at hj;rw[eQ];have:=hlt j (by omega);simpa using this
  ·rw[cw hz] at hc;cases hc;simpa using hcz
end
def lJ (m:Ĺ) (w:Way):Bool:=Μ (ķ (trP m w)) ((É (trP m w)).length+1)
def ş (m:Ĺ):List Way:=(Œ m.2).filter (lJ m)
def Ps (m:Ĺ):Way×Bool:=match (Œ m.2).find? (lJ m) with|some w=>(w,true)|none=>([],false)
section
variable {m:Ĺ} {w:Way} {ρ:Type}
def agJ (h:MOk m) (hw:ħ m.2 w):In (trP m w):=⟨(lY h hw).size,h.in_.num⟩
def EO (h:MOk m) (hw:ħ m.2 w):g9 (trP m w)=some ((((É (trP m w)).length:Int)+1,ķ (trP m w)),Iz (trP m w),0):=by
 rw[V6 (agJ h hw),SH,if_neg (by simp[(Ģ _).2 (lY h hw)])]
def vN (h:MOk m) (hw:ħ m.2 w):Ρ m w=some (lJ m w):=by
 unfold Ρ xp;rw[ki h hw,À,EO h hw,À];have:=SI (lY h hw).sys;simp only[Int.natCast_add,Int.cast_ofNat_Int] at this;rw[this]; rfl
def rW {i:Nat} (hi:(Œ m.2)[i]?=some w):ħ m.2 w:=sE.1 (cG hi)
def uw (h:MOk m):(Œ m.2).length≤150:=by rw[abV]; exact h.prod
def adw (h:MOk m):Es m=some (ş m):=by
 unfold Es Qv;have hl:=Si h;have hl2:=uw h;have hm:((((m.1.1.1,m.1.1.2),m.1.2.1,m.1.2.2.1,m.1.2.2.2.1,m.1.2.2.2.2.1,m.1.2.2.2.2.2),m.2):Ĺ)=m:=rfl;rw[ad9 h,À,IR (fun v y kn hv=>by unfold By; rw[Ć (Ø (by simp; omega))]) (by simp; omega),List.nil_append,S8 h,À]
 refine X7 (a:=Œ m.2) (lJ m) (K:=fun l=>some l) (k0:=adY [] fun l=>some l) (kf:=fun z6=>ifb (ieq z6 (-1:Int)) (some (Œ m.2)) (ck (z6+(1:Int)) fun n7=>Ë (fun(v15:Int×Int×List Way) kk19=>mh m.1.1.1 m.1.1.2 m.1.2.1 m.1.2.2.1 m.1.2.2.2.1 m.1.2.2.2.2.1 m.1.2.2.2.2.2 m.2 v15.1 v15.2.1 v15.2.2 (fun u16 u17 u18=>kk19 (u16,u17,u18)) (adY [] fun l=>some l)) (z6,n7,Œ m.2)))
  (F:=fun a b c kn=>mh m.1.1.1 m.1.1.2 m.1.2.1 m.1.2.2.1 m.1.2.2.2.1 m.1.2.2.2.2.1 m.1.2.2.2.2.2 m.2 a b c kn (adY [] fun l=>some l)) (kend:=some (Œ m.2)) (fun i x hi hx kn=>?_) (fun kn=>?_) rfl (fun z hz=>?_) (fun i j s x hs hij hj hx hxa kn=>?_) (fun i s kn hi hs=>?_) (fun i s hi=>X8 _ _ hi)
 ·try dsimp only
  unfold uL;rw[Ó hi,ũ hi,Ę hx,hm,vN h (rW hx),À,Í hi (by omega),Č];rfl
 ·try dsimp only
  unfold uL;rw[ß]
 ·rw[Î (by simp[ieq]),Í hz (by omega)]
 ·try dsimp only
  unfold mh;rw[Ó hj,show ñ s=((s.length:Nat):Int) from rfl,ũ hj,Ę hx,hm,vN h (sE.1 hxa),À];cases lJ m x
  ·simp only[ff,dw,é,cQ,if_false];rw[Í hj (by omega)]
  ·simp only[ff,dw,oH,if_true];rw[ũ (by omega),Ę (cw (by omega)),Í (show i<s.length by omega) (by omega),Í hj (by omega),cP]
 ·try dsimp only
  unfold mh;rw[ß]
def rP (h:MOk m):ü m=some (Ps m):=by
 unfold ü uM;have hl2:=uw h;have hm:((((m.1.1.1,m.1.1.2),m.1.2.1,m.1.2.2.1,m.1.2.2.2.1,m.1.2.2.2.2.1,m.1.2.2.2.2.2),m.2):Ĺ)=m:=rfl;rw[I5 h,À];refine Eq.trans (mA (Œ m.2) (fun _ w=>if lJ m w then some (w,true) else none) (fun z=>some (z.1,z.2)) (some ([],false)) (fun i x hi hx kn=>?_) (fun kn=>?_)) ?_
 ·try dsimp only
  unfold jU;rw[Ó hi,È hx,hm,vN h (rW hx),À,Í hi (by omega),Č]
  cases lJ m x<;>rfl
 ·try dsimp only
  unfold jU;rw[ß]
 ·rw[Hn,Ps]
  have key:∀l:List Way,l.findSome? (fun w=>if lJ m w then some (w,true) else none)=(l.find? (lJ m)).map fun w=>(w,true):=by
   intro l
   induction l with
   |nil=>rfl
   |cons x l ih =>
    rw[fS,fj]
    cases h:lJ m x with
    |true=>rfl
    |false=>exact ih
  rw[key]
  cases(Œ m.2).find? (lJ m)<;>rfl
def oq (m:Ĺ):Bool:=(Œ m.2).any (lJ m)
def vH (m:Ĺ):(Ps m).2=oq m:=by
 unfold Ps oq
 cases h:(Œ m.2).find? (lJ m) with
 |none =>
  symm
  rw[dG]
  exact fun x hx=>by simpa using(dU.1 h) x hx
 |some w =>
  symm
  rw[dc];exact⟨w,fi h,fX h⟩
def ae1 (hs:In m.1) (hn:m.2.length≤1000):Gj m=some (if Ī m≠0 then([],Ī m) else(ş m,0)):=by
 unfold Gj Xg;rw[mS hs hn,À]
 by_cases hc:Ī m=0
 ·rw[Î (by simp[ine,hc]),if_neg (by simp[hc]),adw ((Ĵ m).1 hc)]; rfl
 ·rw[Ù (by simp[ine,hc]),if_pos hc]
def XL (m:Ĺ):Way×Int:=if Ī m≠0 then([],Ī m) else if oq m then((Ps m).1,0) else([],5)
def aeX (hs:In m.1) (hn:m.2.length≤1000):Eu m=some (XL m):=by
 unfold Eu Kj XL;rw[mS hs hn,À]
 by_cases hc:Ī m=0
 ·rw[Î (by simp[ine,hc]),if_neg (by simp[hc]),rP ((Ĵ m).1 hc),À,vH]
  cases oq m<;>rfl
 ·rw[Ù (by simp[ine,hc]),if_pos hc]
def ah0 (m:Ĺ) (p:Cmp→Bool):Ĺ:=((m.1.1,m.1.2.1,m.1.2.2.1,m.1.2.2.2.1,m.1.2.2.2.2.1.filter p,m.1.2.2.2.2.2),m.2)
def sN (m:Ĺ) (ids:List Int):Ĺ:=ah0 m fun c=>ids.contains c.1
def WR (hn:m.1.2.2.2.2.1.length≤1000) {ids:List Int} (hi:ids.length≤1000000):zd m ids=some (sN m ids):=by
 unfold zd Qo;rw[Ć (Ø (by omega))]
 refine X7 (a:=m.1.2.2.2.2.1) (fun c=>ids.contains c.1) (K:=fun l=>some ((m.1.1,m.1.2.1,m.1.2.2.1,m.1.2.2.2.1,l,m.1.2.2.2.2.2),m.2)) (k0:=adY zC fun l=>some ((m.1.1,m.1.2.1,m.1.2.2.1,m.1.2.2.2.1,l,m.1.2.2.2.2.2),m.2))
  (kf:=fun z4=>ifb (ieq z4 (-1:Int)) (some m) (ck (z4+(1:Int)) fun n5=>Ë (fun(v13:Int×Int×List Cmp) kk17=>mg ids v13.1 v13.2.1 v13.2.2 (fun u14 u15 u16=>kk17 (u14,u15,u16)) (adY zC fun l=>some ((m.1.1,m.1.2.1,m.1.2.2.1,m.1.2.2.2.1,l,m.1.2.2.2.2.2),m.2))) (z4,n5,m.1.2.2.2.2.1)))
  (F:=fun a b c kn=>mg ids a b c kn (adY zC fun l=>some ((m.1.1,m.1.2.1,m.1.2.2.1,m.1.2.2.2.1,l,m.1.2.2.2.2.2),m.2))) (kend:=some m) (fun i x hi' hx kn=>?_) (fun kn=>?_) rfl (fun z hz=>?_) (fun i j s x hs hij hj hx hxa kn=>?_) (fun i s kn hi hs=>?_) (fun i s hi=>X8 _ _ hi)
 ·try dsimp only
  unfold uK;rw[Ó hi',ũ hi',Ę hx,Ś hi,À,Í hi' (by omega),Č];rfl
 ·try dsimp only
  unfold uK;rw[ß]
 ·rw[Î (by simp[ieq]),Í hz (by omega)]
 ·try dsimp only
  unfold mg;rw[Ó hj,show ñ s=((s.length:Nat):Int) from rfl,ũ hj,Ę hx,Ś hi,À];cases ids.contains x.1
  ·simp only[ff,dw,é,cQ,if_false];rw[Í hj (by omega)]
  ·simp only[ff,dw,oH,if_true];rw[ũ (by omega),Ę (cw (by omega)),Í (show i<s.length by omega) (by omega),Í hj (by omega),cP]
 ·try dsimp only
  unfold mg;rw[ß]
end
section
variable {b:Ď}
def IK (h:ū b) (g:ÿ) {f t u:Int} (h1:f≤t) (h2:t≤u):lg b g f u=lg b g f t+lg b g t u:=by
 obtain⟨n,rfl⟩:∃n:Nat,u=t+n:=⟨(u-t).toNat,by omega⟩;clear h2
 induction n with
 |zero=>simp[U9]
 |succ n ih =>
  have e:t+((n+1:Nat):Int)=(t+n)+1:=by omega
  rw[e,U8 h g (show f≤t+(n:Int) by omega),U8 h g (show t≤t+(n:Int) by omega),ih];omega
def BZ (h:ū b) {g:ÿ} (hg:g∈b.2.1) {f t:Int} (hf:0≤f):0≤lg b g f t:=(vB h hg hf).1
def hZ (b:Ď) (id d:Int):Int:=match jx (É b) id d with|some j=>(j:Int)+1|none=>0
def qw (h:ū b) {i:Nat} {g:ÿ} (hg:b.2.1[i]?=some g) {k:Nat} {d:Int} (hk:(ã b g)[k]?=some d):hZ b g.1 d=(off b i:Int)+k+1:=by
 unfold hZ;rw[Qd h hg hk];simp only;omega
structure ut (b:Ď) (p:Int→Int) (g:ÿ):Prop where
 hi:p (hZ b g.1 g.2.1)≤p 0+(g.2.2.1+g.2.2.2.1.2)
 lo:p 0+(g.2.2.1+g.2.2.2.1.1)≤p (hZ b g.1 g.2.1)
 down:∀d e,d∈ã b g→e∈ã b g→d≤e→p (hZ b g.1 e)≤p (hZ b g.1 d)
 loss:∀d e,d∈ã b g→e∈ã b g→d≤e→p (hZ b g.1 d)≤p (hZ b g.1 e)+lg b g d e
def Ei (h:ū b) {i:Nat} {g:ÿ} (hg:b.2.1[i]?=some g) {p:Int→Int}:(∀l∈Ő b g,p l.2.1≤p l.1+l.2.2)↔ut b p g:=by
 have hgm:=cG hg;obtain⟨tl,htl⟩:=Vz h hgm
 have h0:hZ b g.1 g.2.1=(off b i:Int)+1:=by
  have:=qw h hg (k:=0) (d:=g.2.1) (by rw[htl]; rfl);rw[this];omega
 constructor
 ·intro hl;have e1:=hl _ ((Ļ h hg).2 (.inl rfl));have e2:=hl _ ((Ļ h hg).2 (.inr (.inl rfl)));simp only at e1 e2
  have step:∀(k:Nat) (d e:Int),(ã b g)[k]?=some d→(ã b g)[k+1]?=some e→p (hZ b g.1 e)≤p (hZ b g.1 d)∧p (hZ b g.1 d)≤p (hZ b g.1 e)+lg b g d e:=by
   intro k d e hd he;have a1:=hl _ ((Ļ h hg).2 (.inr (.inr ⟨k,d,e,hd,he,.inl rfl⟩)));have a2:=hl _ ((Ļ h hg).2 (.inr (.inr ⟨k,d,e,hd,he,.inr rfl⟩)));simp only at a1 a2;rw[qw h hg hd,qw h hg he]
   have e3:(off b i:Int)+((k+1:Nat):Int)+1=(off b i:Int)+k+2:=by omega
   rw[e3];exact⟨by omega,a2⟩
  have pair:∀(n k:Nat) (d e:Int),(ã b g)[k]?=some d→(ã b g)[k+n]?=some e→p (hZ b g.1 e)≤p (hZ b g.1 d)∧p (hZ b g.1 d)≤p (hZ b g.1 e)+lg b g d e:=by
   intro n
   induction n with
   |zero =>
    intro k d e hd he;rw[fG,hd] at he;cases he;rw[U9 g (dC _)];omega
   |succ n ih =>
    intro k d e hd he;have hlt:=(cB.1 he).1;have hm:(ã b g)[k+n]?=some ((ã b g)[k+n]'(by omega)):=cw (by omega);obtain⟨a1,a2⟩:=ih k d _ hd hm;obtain⟨a3,a4⟩:=step (k+n) _ e hm he
    have o1:d≤(ã b g)[k+n]'(by omega):=by
     obtain⟨hkl,hkd⟩:=cB.1 hd;rcases fY n with rfl|hn
     ·rw[←hkd]; exact Int.le_of_eq (by congr 1)
     ·have:=(df.1 (vP b g)) k (k+n) hkl (by omega) (by omega);rw[hkd] at this; omega
    have o2:(ã b g)[k+n]'(by omega)≤e:=by
     obtain⟨hel,hee⟩:=cB.1 he;have:=(df.1 (vP b g)) (k+n) (k+(n+1)) (by omega) hel (by omega);rw[hee] at this; omega
    have:=IK h g o1 o2;omega
  have any:∀d e,d∈ã b g→e∈ã b g→d≤e→p (hZ b g.1 e)≤p (hZ b g.1 d)∧p (hZ b g.1 d)≤p (hZ b g.1 e)+lg b g d e:=by
   intro d e hd he hde;obtain⟨k,hk,rfl⟩:=cM.1 hd;obtain⟨m,hm,rfl⟩:=cM.1 he
   have hkm:k≤m:=by
    rcases cV m k with hlt|hge
    ·have:=(df.1 (vP b g)) m k hm hk hlt; omega
    ·exact hge
   exact pair (m-k) k _ _ (cw hk) (by rw[show k+(m-k)=m by omega]; exact cw hm)
  exact⟨by rw[h0]; omega,by rw[h0]; omega,fun d e hd he hde=>(any d e hd he hde).1,fun d e hd he hde=>(any d e hd he hde).2⟩
 ·intro hf l hl;rcases(Ļ h hg).1 hl with rfl|rfl|⟨k,d,e,hd,he,rfl|rfl⟩
  ·have:=hf.hi; rw[h0] at this; simp only; omega
  ·have:=hf.lo; rw[h0] at this; simp only; omega
  ·have hde:d≤e:=by
    obtain⟨a1,a2⟩:=cB.1 hd;obtain⟨a3,a4⟩:=cB.1 he;have:=(df.1 (vP b g)) k (k+1) a1 a3 (by omega);rw[a2,a4] at this; omega
   have:=hf.down d e (cG hd) (cG he) hde;rw[qw h hg hd,qw h hg he] at this
   have e3:(off b i:Int)+((k+1:Nat):Int)+1=(off b i:Int)+k+2:=by omega
   rw[e3] at this;simp only;omega
  ·have hde:d≤e:=by
    obtain⟨a1,a2⟩:=cB.1 hd;obtain⟨a3,a4⟩:=cB.1 he;have:=(df.1 (vP b g)) k (k+1) a1 a3 (by omega);rw[a2,a4] at this; omega
   have:=hf.loss d e (cG hd) (cG he) hde;rw[qw h hg hd,qw h hg he] at this
   have e3:(off b i:Int)+((k+1:Nat):Int)+1=(off b i:Int)+k+2:=by omega
   rw[e3] at this;simp only;exact this
def acE (h:ū b) {p:Int→Int}:Pot (ķ b) p↔(∀g∈b.2.1,ut b p g)∧∀c∈b.2.2.2.2.1,p (cx b c)≤p (cy b c)+(wP b c).2∧p (cy b c)+(wP b c).1≤p (cx b c):=by
 constructor
 ·intro hp;refine⟨fun g hg=>?_,fun c hc=>?_⟩
  ·obtain⟨i,hi,rfl⟩:=cM.1 hg;exact(Ei h (cw hi)).1 fun l hl=>hp l.1 l.2.1 l.2.2 (o9.2 (.inl ⟨i,_,cw hi,hl⟩))
  ·have a1:=hp _ _ _ (o9.2 (.inr ⟨c,hc,.inl rfl⟩));have a2:=hp _ _ _ (o9.2 (.inr ⟨c,hc,.inr rfl⟩));omega
 ·rintro⟨hg,hc⟩ u v m hl;rcases o9.1 hl with⟨i,g,hig,hl⟩|⟨c,hcm,hl⟩
  ·exact(Ei h hig).2 (hg g (cG hig)) (u,v,m) hl
  ·obtain⟨a1,a2⟩:=hc c hcm;rcases hl with hl|hl
   ·obtain⟨rfl,rfl,rfl⟩:u=cy b c∧v=cx b c∧m=(wP b c).2:=by simpa using hl
    exact a1
   ·obtain⟨rfl,rfl,rfl⟩:u=cx b c∧v=cy b c∧m = -(wP b c).1:=by simpa using hl
    omega
end
def agW:List Int→Int
 |[]=>0
 |[a]=>a
 |a::b::t=>max a (agW (b::t))
def TV:∀{l:List Int},l≠[]→(∀a∈l,a≤agW l)∧agW l∈l
 |[],h=>absurd rfl h
 |[a],_=>⟨fun x hx=>by rw[cH] at hx; rw[hx]; exact dC _,by simp[agW]⟩
 |a::b::t,_=>by
  obtain⟨h1,h2⟩:=TV (l:=b::t) (by simp);have e:agW (a::b::t)=max a (agW (b::t)):=rfl;rw[e];constructor
  ·intro x hx;rcases cF.1 hx with rfl|hx
   ·omega
   ·have:=h1 x hx; omega
  ·rcases Int.le_total a (agW (b::t)) with h|h
   ·rw[Int.max_eq_right h]; exact dh _ h2
   ·rw[Int.max_eq_left h]; exact List.mem_cons_self
section
variable {b:Ď}
def acC (b:Ď) (f:Int→Int→Int) (z:Int) (v:Int):Int:=if v=0 then z else match (É b)[(v-1).toNat]? with|some n=>f n.1 n.2|none=>0
def Jl (f:Int→Int→Int) (z:Int):acC b f z 0=z:=by unfold acC; rw[if_pos rfl]
def Tp (h:ū b) (f:Int→Int→Int) (z:Int) {g:ÿ} (hg:g∈b.2.1) {d:Int} (hd:d∈ã b g):acC b f z (hZ b g.1 d)=f g.1 d:=by
 obtain⟨i,hi,rfl⟩:=List.mem_iff_getElem.1 hg;obtain⟨k,hk,rfl⟩:=List.mem_iff_getElem.1 hd;have hgi:=List.getElem?_eq_getElem hi;have hdk:=List.getElem?_eq_getElem hk;rw[qw h hgi hdk];unfold acC
 have e:((off b i:Int)+k+1-1).toNat=off b i+k:=by omega
 rw[if_neg (by omega),e,afD hgi hdk]
def VU (b:Ď) (l:List Int) (d:Int):Int:=match l with|[]=>0|x::_=>hZ b x d
def Z9 (l:List Int) (d:Int):atP (É b) l d=VU b l d:=by
 unfold atP VU hZ
 cases l<;>rfl
def ad2 (c:Cmp):cx b c=VU b (þ c.2.2.1 c.2.2.2.1) c.2.1:=Z9 _ _
def ad1 (c:Cmp):cy b c=VU b (þ c.2.2.2.1 c.2.2.1) c.2.1:=Z9 _ _
def Zw (h:ū b) {c:Cmp} (hc:c∈b.2.2.2.2.1) {x:Int} (hx:x∈þ c.2.2.1 c.2.2.2.1∨x∈þ c.2.2.2.1 c.2.2.1):∃g∈b.2.1,g.1=x∧c.2.1∈ã b g:=by
 have hx':(x∈c.2.2.1∧x∉c.2.2.2.1)∨(x∈c.2.2.2.1∧x∉c.2.2.1):=by
  rcases hx with hx|hx
  ·exact .inl (nN.1 hx)
  ·exact .inr (nN.1 hx)
 have hm:x∈c.2.2.1++c.2.2.2.1:=by rw[cE]; exact hx'.imp (·.1) (·.1)
 obtain⟨⟨g,hg,_⟩,_⟩:=h.pile hc hm;obtain⟨hgm,hid⟩:=ig hg;refine⟨g,hgm,hid,Ž.2 (.inr (.inl ⟨c,hc,?_,rfl⟩))⟩;rw[hid];intro he;rw[gz,fh,fh] at he;rcases hx' with⟨a,e⟩|⟨a,e⟩
 ·exact e (he.1 a)
 ·exact e (he.2 a)
def fill (b:Ď) (p:Int→Int) (g:ÿ) (d:Int):Int:=agW ((ã b g).map fun e=>if d≤e then p (hZ b g.1 e) else p (hZ b g.1 e)-lg b g e d)
def LV {p:Int→Int} {g:ÿ} (d:Int):(∀e∈ã b g,(if d≤e then p (hZ b g.1 e) else p (hZ b g.1 e)-lg b g e d)≤fill b p g d)∧∃e∈ã b g,fill b p g d=if d≤e then p (hZ b g.1 e) else p (hZ b g.1 e)-lg b g e d:=by
 have hne:((ã b g).map fun e=>if d≤e then p (hZ b g.1 e) else p (hZ b g.1 e)-lg b g e d)≠[]:=by
  intro h;have:=List.map_eq_nil_iff.1 h;have h2:=rQ (b:=b) g;rw[this] at h2;cases h2
 obtain⟨h1,h2⟩:=TV hne;refine⟨fun e he=>h1 _ (dj.2 ⟨e,he,rfl⟩),?_⟩;obtain⟨e,he,hx⟩:=dj.1 h2;exact⟨e,he,hx.symm⟩
def ZM (h:ū b) {p:Int→Int} {g:ÿ} (hg:g∈b.2.1) (hf:ut b p g) {d:Int} (hd:d∈ã b g):fill b p g d=p (hZ b g.1 d):=by
 obtain⟨h1,e,he,h2⟩:=LV (b:=b) (p:=p) (g:=g) d;have h3:=h1 d hd;rw[if_pos (dC _)] at h3
 have h4:fill b p g d≤p (hZ b g.1 d):=by
  rw[h2]
  split
  ·rename_i hde;exact hf.down d e hd he hde
  ·rename_i hde;have:=hf.loss e d he hd (by omega);omega
 omega
def Vw (h:ū b) {p:Int→Int} {g:ÿ} (hg:g∈b.2.1) (hf:ut b p g) {d e:Int} (h0:g.2.1≤d) (hde:d≤e):fill b p g e≤fill b p g d∧fill b p g d≤fill b p g e+lg b g d e:=by
 obtain⟨a1,x,hx,a2⟩:=LV (b:=b) (p:=p) (g:=g) d;obtain⟨b1,y,hy,b2⟩:=LV (b:=b) (p:=p) (g:=g) e;have hm:=(h.gaugeR hg).2.2.2.2.1;have hl:=BZ h hg (f:=d) (t:=e) (by omega);have dx:=h.day hg hx;have dy:=h.day hg hy;constructor
 ·have q:=a1 y hy;rw[b2]
  by_cases c1:e≤y
  ·rw[if_pos c1];rw[if_pos (by omega)] at q;exact q
  ·rw[if_neg c1]
   by_cases c2:d≤y
   ·rw[if_pos c2] at q;have:=BZ h hg (f:=y) (t:=e) dy.2.1;omega
   ·rw[if_neg c2] at q;have:=IK h g (f:=y) (t:=d) (u:=e) (by omega) hde;omega
 ·have q:=b1 x hx;rw[a2]
  by_cases c1:d≤x
  ·rw[if_pos c1]
   by_cases c2:e≤x
   ·rw[if_pos c2] at q;omega
   ·rw[if_neg c2] at q;have:=IK h g (f:=d) (t:=x) (u:=e) c1 (by omega);have:=BZ h hg (f:=d) (t:=x) (by omega);omega
  ·rw[if_neg c1];rw[if_neg (by omega)] at q;have:=IK h g (f:=x) (t:=d) (u:=e) (by omega) hde;omega
end
section
variable {b:Ď} {c:Cmp}
def abz {b':Ď} (h':ū b') {l:List Int} {day:Int} (f:Int→Int→Int) (z:Int) (hl:∀x∈l,∃g∈b'.2.1,g.1=x∧day∈ã b' g):acC b' f z (VU b' l day)=match l with|[]=>z|x::_=>f x day:=by
 unfold VU
 cases l with
 |nil=>exact Jl f z
 |cons x t =>
  obtain⟨g,hg,rfl,hd⟩:=hl x (by simp);exact Tp h' f z hg hd
end
section
variable {L:List Lk} {N:Nat}
def Wl.app {u v:Int} {vs:List Int} {d:Int} (h1:Wl L (fun x=>x=u) vs v d) {ws:List Int} {w e:Int} (h2:Wl L (fun x=>x=v) ws w e):∃xs,Wl L (fun x=>x=u) xs w (d+e):=by
 induction h2 with
 |nil h=>subst h; exact⟨vs,by rw[gA]; exact h1⟩
 |step hw hx ih =>
  obtain⟨xs,hi⟩:=ih;have:=Wl.step hi hx;rw[Int.add_assoc] at this;exact⟨_,this⟩
def dst (L:List Lk) (N:Nat) (s t:Int):Int:=gv (kh L N s) t
def adU (h:ž L N) (ht:Iv L N) (ho:Μ L N=true) {s t:Int} (hs:0≤s∧s<N) (hv:0≤t∧t<N):dst L N s t≤9007199254740992:=by
 have h2:=h.n60;obtain⟨p,hp⟩:=(Ų h.links (by omega)).1 ho;obtain⟨vs,d,hw,hd⟩:=ht.from' s hs.1 hs.2;obtain⟨ws,e,hx,he⟩:=ht.to t hv.1 hv.2;obtain⟨xs,hy⟩:=Wl.app hw hx;have:=(kg h.links (by omega) hp hs).low t xs _ (TO.2 hy);unfold dst;omega
def adT (h:ž L N) (ht:Iv L N) (ho:Μ L N=true) {s t:Int} (hs:0≤s∧s<N) (hv:0≤t∧t<N):dst L N s t≠ŋ:=by
 have:=adU h ht ho hs hv;unfold ŋ;omega
def adS (h:ž L N) (ht:Iv L N) (ho:Μ L N=true) {s:Int} (hs:0≤s∧s<N):Pot L (dst L N s):=by
 have h2:=h.n60;obtain⟨p,hp⟩:=(Ų h.links (by omega)).1 ho;intro u v m hl;have hr:=h.inr _ hl;exact(kg h.links (by omega) hp hs).pot h.inr hl (adT h ht ho hs hr.1)
def ZS (h:ž L N) (ho:Μ L N=true) {s:Int} (hs:0≤s∧s<N):dst L N s s=0:=Yn h ho hs.1 hs.2
def X5 (h:ž L N) (ht:Iv L N) (ho:Μ L N=true) {s t:Int} (hs:0≤s∧s<N) (hv:0≤t∧t<N) {p:Int→Int} (hp:Pot L p):p t-p s≤dst L N s t:=by
 have h2:=h.n60;obtain⟨vs,hw⟩:=(kg h.links (by omega) hp hs).att t hv.1 hv.2 (adT h ht ho hs hv);obtain⟨u,hu,hx⟩:=(TO.1 hw).pot hp;subst hu;exact hx
def ah8 (h:ž L N) (ht:Iv L N) (ho:Μ L N=true) {x y:Int} (hx:0≤x∧x<N) (hy:0≤y∧y<N) {t:Int} (h1 : -(dst L N x y)≤t) (h2:t≤dst L N y x):∃p,Pot L p∧p x-p y=t:=by
 refine⟨fun v=>min (dst L N y v) (dst L N x v+t),fun u v m hl=>?_,?_⟩
 ·have a1:=adS h ht ho hy u v m hl;have a2:=adS h ht ho hx u v m hl;show min _ _≤min _ _+m;omega
 ·have e1:=ZS h ho hx;have e2:=ZS h ho hy;show min (dst L N y x) (dst L N x x+t)-min (dst L N y y) (dst L N x y+t)=t;omega
def L4 (h:ž L N) (ht:Iv L N) (ho:Μ L N=true) {x y:Int} (hx:0≤x∧x<N) (hy:0≤y∧y<N) : -(dst L N x y)≤dst L N y x:=by
 have h2:=h.n60;obtain⟨p,hp⟩:=(Ų h.links (by omega)).1 ho;have a1:=X5 h ht ho hx hy hp;have a2:=X5 h ht ho hy hx hp;omega
def dst_bd (h:ž L N) (ht:Iv L N) (ho:Μ L N=true) {s t:Int} (hs:0≤s∧s<N) (hv:0≤t∧t<N) : -9007199254740992≤dst L N s t∧dst L N s t≤9007199254740992:=by
 have a1:=adU h ht ho hs hv;have a2:=adU h ht ho hv hs;have a3:=L4 h ht ho hv hs;omega
def abH (h:ž L N) (ht:Iv L N) {s t:Int} (hs:0≤s∧s<N) (hv:0≤t∧t<N):aal L N s t=if Μ L N then(dst L N s t,0) else(0,9):=by
 unfold aal
 by_cases ho:Μ L N=true
 ·have hne:=adT h ht ho hs hv;unfold dst at hne ⊢;rw[if_neg (by simp[ho]),if_neg hne,if_pos ho]
 ·rw[if_pos (by simpa using ho),if_neg ho]
end
def acl (f:Int→Int→Int) (z:Int) (l:List Int) (d:Int):Int:=match l with|[]=>z|x::_=>f x d
def abh (f:Int→Int→Int) (z:Int) (c:Cmp):Int:=acl f z (þ c.2.2.1 c.2.2.2.1) c.2.1-acl f z (þ c.2.2.2.1 c.2.2.1) c.2.1
structure air (b:Ď) (f:Int→Int→Int) (z:Int) (g:ÿ):Prop where
 hi:f g.1 g.2.1≤z+(g.2.2.1+g.2.2.2.1.2)
 lo:z+(g.2.2.1+g.2.2.2.1.1)≤f g.1 g.2.1
 down:∀d e,g.2.1≤d→d≤e→f g.1 e≤f g.1 d
 loss:∀d e,g.2.1≤d→d≤e→f g.1 d≤f g.1 e+lg b g d e
structure Hist (b:Ď) (f:Int→Int→Int) (z:Int):Prop where
 gauge:∀g∈b.2.1,air b f z g
 cmp:∀c∈b.2.2.2.2.1,(wP b c).1≤abh f z c∧abh f z c≤(wP b c).2
def adK {b:Ď} (h:ū b) {p:Int→Int} (hg:∀g∈b.2.1,ut b p g):∃f:Int→Int→Int,(∀g∈b.2.1,air b f (p 0) g)∧∀g∈b.2.1,∀d∈ã b g,f g.1 d=p (hZ b g.1 d):=by
 let f:Int→Int→Int:=fun id d=>match ö b id with|some g=>fill b p g d|none=>0
 have hfv:∀g∈b.2.1,∀d,f g.1 d=fill b p g d:=fun g hgm d=>by
  show(match ö b g.1 with|some g=>fill b p g d|none=>0)=_;rw[vG h.ids hgm]
 refine⟨f,fun g hgm=>?_,fun g hgm d hd=>by rw[hfv g hgm]; exact ZM h hgm (hg g hgm) hd⟩;have gf:=hg g hgm
 have e0:f g.1 g.2.1=p (hZ b g.1 g.2.1):=by rw[hfv g hgm]; exact ZM h hgm gf (rQ g)
 refine⟨by rw[e0]; exact gf.hi,by rw[e0]; exact gf.lo,fun d e h0 hde=>?_,fun d e h0 hde=>?_⟩
 ·rw[hfv g hgm,hfv g hgm];exact(Vw h hgm gf h0 hde).1
 ·rw[hfv g hgm,hfv g hgm];exact(Vw h hgm gf h0 hde).2
def Tb {b:Ď} {f:Int→Int→Int} {p:Int→Int} (hm:∀g∈b.2.1,∀d∈ã b g,f g.1 d=p (hZ b g.1 d)) {l:List Int} {day:Int} (hl:∀x∈l,∃g∈b.2.1,g.1=x∧day∈ã b g):p (VU b l day)=acl f (p 0) l day:=by
 cases l with
 |nil=>rfl
 |cons x t =>
  obtain⟨g,q1,rfl,q3⟩:=hl x (by simp);exact(hm g q1 day q3).symm
def adX {b:Ď} {f:Int→Int→Int} {p:Int→Int} (hm:∀g∈b.2.1,∀d∈ã b g,f g.1 d=p (hZ b g.1 d)) {c:Cmp}
 (hl:∀x,x∈þ c.2.2.1 c.2.2.2.1∨x∈þ c.2.2.2.1 c.2.2.1→∃g∈b.2.1,g.1=x∧c.2.1∈ã b g):p (cx b c)-p (cy b c)=abh f (p 0) c:=by
 unfold abh;rw[ad2,ad1,Tb hm (fun x hx=>hl x (.inl hx)),Tb hm (fun x hx=>hl x (.inr hx))]
def Oz {b:Ď} (h:ū b) (f:Int→Int→Int) (z:Int) {l:List Int} {day:Int} (hl:∀x∈l,∃g∈b.2.1,g.1=x∧day∈ã b g):acC b f z (VU b l day)=acl f z l day:=by
 rw[abz h f z hl];unfold acl
 cases l<;>rfl
def acB {b:Ď} (h:ū b) {f:Int→Int→Int} {z:Int} {c:Cmp} (hl:∀x,x∈þ c.2.2.1 c.2.2.2.1∨x∈þ c.2.2.2.1 c.2.2.1→∃g∈b.2.1,g.1=x∧c.2.1∈ã b g):acC b f z (cx b c)-acC b f z (cy b c)=abh f z c:=by
 unfold abh;rw[ad2,ad1,Oz h f z (fun x hx=>hl x (.inl hx)),Oz h f z (fun x hx=>hl x (.inr hx))]
def aaD {b:Ď} (h:ū b) {f:Int→Int→Int} {z:Int} {g:ÿ} (hg:g∈b.2.1) (hh:air b f z g):ut b (acC b f z) g:=by
 have q:∀d∈ã b g,acC b f z (hZ b g.1 d)=f g.1 d:=fun d hd=>Tp h f z hg hd;have e0:=q g.2.1 (rQ g);refine⟨?_,?_,fun d e hd he hde=>?_,fun d e hd he hde=>?_⟩
 ·rw[e0,Jl]; exact hh.hi
 ·rw[e0,Jl]; exact hh.lo
 ·rw[q d hd,q e he]; exact hh.down d e (h.day hg hd).1 hde
 ·rw[q d hd,q e he]; exact hh.loss d e (h.day hg hd).1 hde
section
variable {b:Ď} {c:Cmp}
def afx (h:ū b) {p:Int→Int} (hp:Pot (ķ b) p):∃f,Hist b f (p 0)∧∀g∈b.2.1,∀d∈ã b g,f g.1 d=p (hZ b g.1 d):=by
 obtain⟨hg,hc⟩:=(acE h).1 hp;obtain⟨f,hf,hm⟩:=adK h hg;refine⟨f,⟨hf,fun c hcm=>?_⟩,hm⟩;have:=adX hm (c:=c) (fun x hx=>Zw h hcm hx);have:=hc c hcm;omega
def afW (h:ū b) {f:Int→Int→Int} {z:Int} (hh:Hist b f z):Pot (ķ b) (acC b f z):=by
 refine(acE h).2 ⟨fun g hg=>aaD h hg (hh.gauge g hg),fun c hc=>?_⟩;have:=acB (f:=f) (z:=z) h (c:=c) (fun x hx=>Zw h hc hx);have:=hh.cmp c hc;omega
def Jw (h:ū b):Μ (ķ b) ((É b).length+1)=true↔∃f z,Hist b f z:=by
 have:=h.sys.n60;rw[Ų h.sys.links (by omega)];constructor
 ·rintro⟨p,hp⟩;obtain⟨f,hf,_⟩:=afx h hp;exact⟨f,_,hf⟩
 ·rintro⟨f,z,hh⟩;exact⟨_,afW h hh⟩
end
def af2 {m:Ĺ} (h:ū m.1) (p:Cmp→Bool):(ah0 m p).1=less m.1 ((m.1.2.2.2.2.1.filter fun c=>!p c).map fun c=>c.1):=by
 unfold ah0 less;dsimp only;congr 5;refine List.filter_congr fun c hc=>?_;rw[Bool.eq_iff_iff,Bool.not_eq_true',Bool.eq_false_iff,ne_eq,List.contains_iff_mem,List.mem_map];constructor
 ·rintro hp ⟨c',hc',e⟩;obtain⟨h1,h2⟩:=dP.1 hc'
  have:c'=c:=by
   obtain⟨i,hi,rfl⟩:=cM.1 h1;obtain⟨j,hj,rfl⟩:=cM.1 hc;have hd:=df.1 h.distinct;rcases Nat.lt_trichotomy i j with hij|hij|hij
   ·exact absurd e (hd i j hi hj hij)
   ·subst hij; rfl
   ·exact absurd e.symm (hd j i hj hi hij)
  rw[this,hp] at h2;cases h2
 ·intro hn
  cases hp:p c with
  |true=>rfl
  |false=>exact absurd ⟨c,dP.2 ⟨hc,by simp[hp]⟩,rfl⟩ hn
def MOk.few {m:Ĺ} (h:MOk m) (p:Cmp→Bool):MOk (ah0 m p):=by
 refine⟨?_,h.n4,h.mixE,h.prod⟩;rw[af2 h.good];exact h.good.less _
section
variable {m:Ĺ} {ρ:Type}
def N8 (h:MOk m) (ids:List Int):ü (sN m ids)=some (Ps (sN m ids)):=rP (h.few _)
def jG (b:Ď) (id d:Int):Int:=if !I0 d then 1 else if (ö b id).isNone then 5 else 0
def RO (hn:m.1.2.1.length≤1000) (id d:Int):tZ m id d=some (jG m.1 id d):=by
 unfold tZ JU jG
 by_cases h:I0 d=true
 ·have h':=h;simp only[I0,inP,cA,decide_eq_true_eq] at h';rw[h,Î (by simp[ilt]; omega),Î (by simp[igt]; omega),if_neg (by simp)];refine dV (Ň m.1.2.1 (fun g=>g.1==id) (fun z=>ifb (!(ige z (0:Int))) (some 5) (some 0)) (some 0) (some 5) (fun j=>Î (by simp[ige]) _ _) (fun i a hi ha kn=>?_) (fun kn=>?_)) ?_
  ·try dsimp only
   unfold qO;rw[Ó hi,È ha,Í hi (by omega),Č]
  ·try dsimp only
   unfold qO;rw[ß]
  ·unfold ö
   cases hf:m.1.2.1.find? (fun g=>g.1==id) with
   |none =>
    rw[if_neg]
    ·rfl
    rw[dc];rintro⟨g,hg,e⟩;exact absurd e (by simpa using(dU.1 hf) g hg)
   |some g =>
    rw[if_pos]
    ·rfl
    have hp:=fX hf;exact dc.2 ⟨g,fi hf,hp⟩
 ·have h':=h;simp only[I0,inP,cA,decide_eq_true_eq,not_and,Int.not_le] at h';rw[if_pos (by simp[h])];rw[Č,Č];simp only[ilt,igt,decide_eq_true_eq]
  split
  ·rfl
  ·rw[if_pos (by have:=h' (by omega); omega)]
def Mq (label:Int) (c:Cmp):Bool:=(þ c.2.2.1 c.2.2.2.1).contains label||(þ c.2.2.2.1 c.2.2.1).contains label
def GB (m:Ĺ) (label:Int):Bool×Int:=if Ī m≠0 then(false,Ī m) else if jG m.1 label 0≠0 then(false,jG m.1 label 0) else(!oq (ah0 m (Mq label)),0)
def V4 (hs:In m.1) (hn:m.2.length≤1000) (label:Int):oK m label=some (GB m label):=by
 unfold oK uN GB;rw[mS hs hn,À]
 by_cases hc:Ī m=0
 ·have h:=(Ĵ m).1 hc;have hC:=h.good.nC;rw[Î (by simp[ine,hc]),if_neg (by simp[hc]),RO hs.size.gauges,À]
  by_cases hk:jG m.1 label 0=0
  ·rw[Î (by simp[ine,hk]),if_neg (by simp[hk]),Ć (Ø (by omega))]
   have hcan:∀c∈m.1.2.2.2.2.1,pf c.2.2.1 c.2.2.2.1=some (þ c.2.2.1 c.2.2.2.1,þ c.2.2.2.1 c.2.2.1,0)∧(þ c.2.2.1 c.2.2.2.1).length≤1000000∧(þ c.2.2.2.1 c.2.2.1).length≤1000000:=fun c hc=>by
    obtain⟨p1,p2⟩:=h.good.size.piles c hc;have hnum:=(kH c).1 (h.good.nums hc);have l1:=D9 c.2.2.1 c.2.2.2.1;have l2:=D9 c.2.2.2.1 c.2.2.1;refine⟨?_,by omega,by omega⟩;rw[aeZ (by omega) (by omega),Yu,hnum.2.2.2.2.2.1,hnum.2.2.2.2.2.2]; rfl
   have hK:∀l,l=m.1.2.2.2.2.1.filter (Mq label)→Ä (ü ((m.1.1,m.1.2.1,m.1.2.2.1,m.1.2.2.2.1,l,m.1.2.2.2.2.2),m.2)) (fun r24=>some ((!r24.2),(0:Int)))=some (!oq (ah0 m (Mq label)),0):=fun l hl=>by
    subst hl;have:=rP (h.few (Mq label));unfold ah0 at this ⊢;rw[this,À,vH]
   refine dV (X7 (a:=m.1.2.2.2.2.1) (Mq label) (K:=fun l=>Ä (ü ((m.1.1,m.1.2.1,m.1.2.2.1,m.1.2.2.2.1,l,m.1.2.2.2.2.2),m.2)) fun r24=>some ((!r24.2),(0:Int))) (k0:=adY zC fun l=>Ä (ü ((m.1.1,m.1.2.1,m.1.2.2.1,m.1.2.2.2.1,l,m.1.2.2.2.2.2),m.2)) fun r24=>some ((!r24.2),(0:Int)))
    (kf:=fun z9=>ifb (ieq z9 (-1:Int)) (Ä (ü m) fun r10=>some ((!r10.2),(0:Int))) (ck (z9+(1:Int)) fun n11=>Ë (fun(v25:Int×Int×List Cmp) kk29=>Η label v25.1 v25.2.1 v25.2.2 (fun u26 u27 u28=>kk29 (u26,u27,u28)) (adY zC fun l=>Ä (ü ((m.1.1,m.1.2.1,m.1.2.2.1,m.1.2.2.2.1,l,m.1.2.2.2.2.2),m.2)) fun r24=>some ((!r24.2),(0:Int)))) (z9,n11,m.1.2.2.2.2.1)))
    (F:=fun a b c kn=>Η label a b c kn (adY zC fun l=>Ä (ü ((m.1.1,m.1.2.1,m.1.2.2.1,m.1.2.2.2.1,l,m.1.2.2.2.2.2),m.2)) fun r24=>some ((!r24.2),(0:Int)))) (kend:=Ä (ü m) fun r10=>some ((!r10.2),(0:Int))) (fun i x hi hx kn=>?_) (fun kn=>?_) rfl (fun z hz=>?_) (fun i j s x hs hij hj hx hxa kn=>?_) (fun i s kn hi hs=>?_) (fun i s hi=>X8 _ _ hi)) (hK _ rfl)
   ·try dsimp only
    unfold jV;obtain⟨c1,c2,c3⟩:=hcan x (List.mem_of_getElem? hx);rw[Ó hi,ũ hi,Ę hx,c1,À,Ś c2,À,Ś c3,À];unfold Mq
    cases(þ x.2.2.1 x.2.2.2.1).contains label<;>cases(þ x.2.2.2.1 x.2.2.1).contains label<;>simp only[oH,é,dw,ff,Bool.or_true,Bool.or_false,if_true,cQ,if_false]<;>first|rfl|rw[Í hi (by omega)]
   ·try dsimp only
    unfold jV;rw[ß]
   ·rw[Î (by simp[ieq]),Í hz (by omega)]
   ·try dsimp only
    unfold Η;obtain⟨c1,c2,c3⟩:=hcan x hxa;have hx2:s[i]?=some s[i]:=List.getElem?_eq_getElem (by omega);rw[Ó hj,show ñ s=((s.length:Nat):Int) from rfl,ũ hj,Ę hx,c1,À,Ś c2,À,Ś c3,À];unfold Mq
    cases(þ x.2.2.1 x.2.2.2.1).contains label<;>cases(þ x.2.2.2.1 x.2.2.1).contains label<;>simp only[oH,é,dw,ff,Bool.or_true,Bool.or_false,if_true,cQ,if_false]<;>first|rw[Í hj (by omega)]|rw[ũ (by omega),Ę hx2,Í (show i<s.length by omega) (by omega),Í hj (by omega),cP]
   ·try dsimp only
    unfold Η;rw[ß]
  ·rw[Ù (by simp[ine,hk]),if_pos hk]
 ·rw[Ù (by simp[ine,hc]),if_pos hc]
def XW (m:Ĺ):List Int:=m.1.2.2.2.2.1.map fun c=>c.1
def ad7 (m:Ĺ):Nat→List Int→List Int
 |0,l=>l
 |i+1,l=>ad7 m i (if oq (sN m (l.take i++l.drop (i+1))) then l else l.take i++l.drop (i+1))
def aiu (m:Ĺ):List Int×Int:=if Ī m≠0 then([],Ī m) else if oq m then([],5) else(ad7 m (XW m).length (XW m),0)
def ait (hs:In m.1) (hn:m.2.length≤1000):IV m=some (aiu m):=by
 unfold IV QH aiu;rw[mS hs hn,À]
 by_cases hc:Ī m=0
 ·have h:=(Ĵ m).1 hc;have hC:=h.good.nC;have hm:((((m.1.1.1,m.1.1.2),m.1.2.1,m.1.2.2.1,m.1.2.2.2.1,m.1.2.2.2.2.1,m.1.2.2.2.2.2),m.2):Ĺ)=m:=rfl;rw[Î (by simp[ine,hc]),if_neg (by simp[hc]),rP h,À,vH]
  cases oq m with
  |true=>rfl
  |false =>
   simp only[é,cQ,if_false]
   have hl:(XW m).length=m.1.2.2.2.2.1.length:=by unfold XW; simp
   refine dV (yV m.1.2.2.2.2.1 (fun c=>c.1) (fun z5=>ck ((Ú z5)-(1:Int)) fun n6=>Ë (fun(v14:List Int×Int) kk17=>pz m.1.1.1 m.1.1.2 m.1.2.1 m.1.2.2.1 m.1.2.2.2.1 m.1.2.2.2.2.1 m.1.2.2.2.2.2 m.2 v14.1 v14.2 (fun u15 u16=>kk17 (u15,u16)) (fun z13=>some (z13,(0:Int)))) (z5,n6)) (fun i a hi ha v kn hv=>?_) (fun v kn=>?_)) ?_
   ·try dsimp only
    unfold uP;rw[Ó hi,È ha,Ć (Ø (by simp; omega)),Í hi (by omega)]
   ·try dsimp only
    unfold uP;rw[ß]
   ·show(ck ((Ú (XW m))-(1:Int)) fun n6=>Ë _ (XW m,n6))=_;rw[Ñ,Ô (by omega) (by omega)];refine Ě (fun x:List Int×Int=>∃i:Nat,x.2=(i:Int)-1∧i≤x.1.length∧x.1.length≤40∧ad7 m i x.1=ad7 m (XW m).length (XW m)) (fun x=>(x.2+1).toNat) ?_ ⟨_,rfl,Nat.le_refl _,by dsimp only; omega,rfl⟩;rintro⟨l,x2⟩ ⟨i,h1,hil,hl40,hco⟩;simp only at h1 hil hl40 hco;subst h1
    cases i with
    |zero =>
     refine .inl fun kn=>?_
     try dsimp only
     unfold pz;rw[Î (by simp[ige]),←hco]; rfl
    |succ i =>
     have e0:((i+1:Nat):Int)-1=i:=by omega
     have hlen:(l.take i++l.drop (i+1)).length=l.length-1:=by simp; omega
     rw[ad7] at hco;refine .inr ⟨(if oq (sN m (l.take i++l.drop (i+1))) then l else l.take i++l.drop (i+1),(i:Int)-1),⟨i,rfl,?_,?_,hco⟩,by simp only[e0]; omega,fun kn=>?_⟩
     ·dsimp only; split<;>omega
     ·dsimp only; split<;>omega
     ·try dsimp only
      unfold pz;rw[e0,Ù (by simp[ige]),Ć (by simp[ile,ñ]; omega),Ô (by omega) (by omega),Ć (by simp[ile,ñ]; omega),Int.toNat_natCast,show Int.toNat ((i:Int)+1)=i+1 by omega,MC (by simp; omega) (by simp; omega),À,hm,WR (by omega) (by omega),À,N8 h,À,vH,Č,Ô (by omega) (by omega),Ô (by omega) (by omega)]
      cases oq (sN m (l.take i++l.drop (i+1)))<;>rfl
 ·rw[Ù (by simp[ine,hc]),if_pos hc]
end
def ċ:List Int→Nat→List Int
 |[],_=>[]
 |x::l,s=>if s % 2=1 then x::ċ l (s / 2) else ċ l (s / 2)
def Ma:∀{l:List Int} {s i:Nat} {x:Int},l[i]?=some x→ċ (l.take (i+1)) s=ċ (l.take i) s++if s / 2 ^ i % 2=1 then[x] else[]
 |[],_,_,_,h=>by simp at h
 |y::l,s,0,x,h=>by
  simp at h; subst h;simp[ċ]
 |y::l,s,i+1,x,h=>by
  simp only[fA] at h;have:=Ma (s:=s / 2) h;simp only[gw,ċ,this,Nat.pow_succ',←Nat.div_div_eq_div_mul]
  split<;>rfl
def pj:∀(l:List Int) (s:Nat),(ċ l s).length≤l.length
 |[],_=>cz _
 |x::l,s=>by
  have:=pj l (s / 2);unfold ċ
  split<;>simp only[cN]<;>omega
def bit_i {s i:Nat} (hs:s<9223372036854775808) (hi:i≤60):ieq (andI .i64 (ii .i64 (s:Int) (i:Int)) (1:Int)) (1:Int)=decide (s / 2 ^ i % 2=1):=by
 have h1:ii .i64 (s:Int) (i:Int)=((s / 2 ^ i:Nat):Int):=by
  unfold ii;have:IntKind.i64.bits=64:=rfl;rw[this,Int.toNat_natCast,Nat.min_eq_left (by omega),Int.fdiv_eq_ediv_of_nonneg _ (Int.le_of_lt (Int.pow_pos (by decide)))];push_cast; rfl
 rw[h1];unfold andI ae6
 have hb:(BitVec.ofInt 64 ((s / 2 ^ i:Nat):Int) &&& BitVec.ofInt 64 1).toNat=s / 2 ^ i % 2:=by
  rw[BitVec.toNat_and,gk,show BitVec.ofInt 64 1=1#64 from rfl,BitVec.toNat_ofNat];rw[show(1#64).toNat=1 from rfl,Nat.and_one_is_mod,Nat.mod_mod_of_dvd _ (by decide)]
 show ieq (IntKind.i64.wrap ((BitVec.ofInt 64 ((s / 2 ^ i:Nat):Int) &&& BitVec.ofInt 64 1).toNat:Int)) 1=_;have hq:s / 2 ^ i % 2<2:=Nat.mod_lt _ (by decide);rw[hb];generalize s / 2 ^ i % 2=q at hq;rw[abR (by omega)];unfold ieq;rw[Bool.eq_iff_iff,beq_iff_eq,decide_eq_true_eq];omega
def ahr (s x:Nat):Bool:=s &&& x==s
def sub_i {s x:Nat} (hs:s<9223372036854775808) (hx:x<9223372036854775808):ieq (GA .i64 (s:Int) (x:Int)) (0:Int)=ahr s x:=by
 unfold GA ae6;show ieq (IntKind.i64.wrap ((BitVec.ofInt 64 (s:Int) &&& ~~~ BitVec.ofInt 64 (x:Int)).toNat:Int)) 0=_
 have h1:(BitVec.ofInt 64 (s:Int) &&& ~~~ BitVec.ofInt 64 (x:Int)).toNat<9223372036854775808:=by
  rw[BitVec.toNat_and];refine Nat.lt_of_le_of_lt Nat.and_le_left ?_;rw[gk,BitVec.toNat_ofNat,Nat.mod_eq_of_lt (by omega)]; exact hs
 rw[abR h1];unfold ieq ahr;rw[Bool.eq_iff_iff,beq_iff_eq,beq_iff_eq]
 have h2:(((BitVec.ofInt 64 (s:Int) &&& ~~~ BitVec.ofInt 64 (x:Int)).toNat:Nat):Int)=0↔∀i,i<64→s.testBit i=true→x.testBit i=true:=by
  rw[Int.natCast_eq_zero,←BitVec.toNat_zero (w:=64),BitVec.toNat_inj];constructor
  ·intro h i hi hsi;have:=congrArg (fun b:BitVec 64=>b.getLsbD i) h;simp only[BitVec.getLsbD_and,BitVec.getLsbD_not,gk,BitVec.getLsbD_ofNat,BitVec.getLsbD_zero,hi,decide_true,dY,hsi] at this;simpa using this
  ·intro h;apply BitVec.eq_of_getLsbD_eq;intro i hi;simp only[BitVec.getLsbD_and,BitVec.getLsbD_not,gk,BitVec.getLsbD_ofNat,BitVec.getLsbD_zero,hi,decide_true,dY]
   cases hsi:s.testBit i with
   |false=>simp
   |true=>rw[h i hi hsi]; simp
 rw[h2];constructor
 ·intro h;refine Nat.eq_of_testBit_eq fun i=>?_;rw[Nat.testBit_and]
  cases hsi:s.testBit i with
  |false=>rfl
  |true =>
   rcases cV i 64 with hi|hi
   ·rw[h i hi hsi]; rfl
   ·have:s<2 ^ i:=cS hs (cR (by decide) (Nat.pow_le_pow_right (by decide) hi));rw[Nat.testBit_lt_two_pow this] at hsi; cases hsi
 ·intro h i _ hsi;rw[←h,Nat.testBit_and,cA] at hsi;exact hsi.2
def abJ:List Int→List Int→Int
 |[],[]=>0
 |[],_=>-1
 |_,[]=>1
 |x::l,y::m=>if x<y then -1 else if y<x then 1 else abJ l m
def Hw (m:Ĺ) (ids:List Int) (st:List Int×Nat×List Nat) (s:Nat):List Int×Nat×List Nat :=
 if st.1.length<(ċ ids s).length∨((ċ ids s).length=st.1.length∧0≤abJ (ċ ids s) st.1) then st else
 if st.2.2.any (ahr s) then st else if oq (sN m (ċ ids s)) then(st.1,st.2.1,st.2.2++[s]) else(ċ ids s,s,st.2.2)
def Hx (m:Ĺ) (ids:List Int) (n:Nat):List Int×Nat×List Nat:=(List.range n).foldl (Hw m ids) (ids,2 ^ ids.length-1,[])
def aeS (m:Ĺ) (ids:List Int):List Int×Int :=
 if Ī m≠0 then([],Ī m) else if 8<ids.length then([],2) else if !ids.all (fun i=>(XW m).contains i) then([],5) else if ¬ids.Pairwise (·<·) then([],6) else
 if oq (sN m (ċ ids (2 ^ ids.length-1))) then([],5) else(ċ ids (Hx m ids (2 ^ ids.length-1)).2.1,0)
section
variable {m:Ĺ} {ρ:Type}
def EH {l:List Int} (hl:l.length≤60) {s:Nat} (hs:s<9223372036854775808):iE l (s:Int)=some (ċ l s):=by
 unfold iE Fy;refine ĩ l (fun i=>ċ (l.take i) s) _ rfl (fun i x hi hx kn=>?_) (fun kn=>?_)
 ·try dsimp only
  unfold oC;have hcl:=pj (l.take i) s
  have:(l.take i).length=i:=by rw[cT]; omega
  rw[Ó hi,È hx,Ć (by simp[ile]),bit_i hs (by omega),Č,Ma hx]
  by_cases h:s / 2 ^ i % 2=1
  ·rw[if_pos (by simpa using h),if_pos h,Ć (Ø (by simp; omega)),Í hi (by omega)]
  ·rw[if_neg (by simpa using h),if_neg h,Í hi (by omega),cW]
 ·try dsimp only
  unfold oC;rw[ß,List.take_length]
def afo (hn:m.1.2.2.2.2.1.length≤1000) {ids:List Int} (hi:ids.length≤1000) (K:Int→Option ρ) (Z:Option ρ):Ë (fun(v:Int) kk=>ψ ids (Ú ids) m.1.2.2.2.2.1 v (fun u=>kk u) K (fun _=>Z)) 0=if ids.all (fun i=>(XW m).contains i) then Z else K 5:=by
 have:=Ň ids (fun i=>!(XW m).contains i) (fun _=>K 5) (K 5) Z (f:=fun v kk=>ψ ids (Ú ids) m.1.2.2.2.2.1 v (fun u=>kk u) K (fun _=>Z)) (fun _=>rfl) (fun i x hi' hx kn=>?_) (fun kn=>?_)
 ·rw[this,gH]
  cases ids.any (fun i=>!(XW m).contains i)<;>rfl
 ·try dsimp only
  unfold ψ;rw[Ó hi',È hx];refine Eq.trans (Ň m.1.2.2.2.2.1 (fun c=>c.1==x) (fun z5=>ifb (!(ige z5 (0:Int))) (K (5:Int)) (ck ((i:Int)+(1:Int)) fun n6=>kn n6)) (kn ((i:Int)+1)) (K 5) (fun j=>by rw[Î (by simp[ige]),Í hi' (by omega)]) (fun j c hj hc kn'=>?_) (fun kn'=>?_)) ?_
  ·try dsimp only
   unfold kP;rw[Ó hj,È hc,Í hj (by omega),Č]
  ·try dsimp only
   unfold kP;rw[ß]
  ·have:(XW m).contains x=m.1.2.2.2.2.1.any fun c=>c.1==x:=by
    unfold XW;rw[Bool.eq_iff_iff,List.contains_iff_mem,List.mem_map,List.any_eq_true];simp
   rw[this]
   cases m.1.2.2.2.2.1.any (fun c=>c.1==x)<;>rfl
 ·try dsimp only
  unfold ψ;rw[ß]
def afn {l:List Int} (hl:l.length≤1000) (k0:Int→Option ρ) (k1:Unit→Option ρ):Ë (fun(v:Int) kk=>iS l v (fun u=>kk u) k0 k1) 1=if l.Pairwise (·<·) then k1 () else k0 6:=by
 refine Zp (fun i a c ha hc kn=>?_) (fun n hn kn=>?_)
 ·have hi:=(List.getElem?_eq_some_iff.1 hc).1;unfold iS
  have e:((i:Int)+1)=((i+1:Nat):Int):=by omega
  rw[e,Ó hi,È hc,Ô (by omega) (by omega),←e,Int.add_sub_cancel,È ha,Č,Ô (by omega) (by omega)];simp
 ·unfold iS;rw[Î (by simp[ilt,Ñ]; omega)]
def EC (h:MOk m) (ids:List Int) {w:Way} (hw:ħ m.2 w):Ρ (sN m ids) w=some (lJ (sN m ids) w):=vN (h.few _) hw
def afm (h:MOk m) {ids:List Int} (hi:ids.length≤60) {s:Nat} (hs:s<9223372036854775808) (X Z:Option ρ):Ë (fun(v:Int) kk=>iR (Œ m.2) (Ú (Œ m.2)) m.1.1.1 m.1.1.2 m.1.2.1 m.1.2.2.1 m.1.2.2.2.1 m.1.2.2.2.2.1 m.1.2.2.2.2.2 m.2 ids (s:Int) v (fun u=>kk u) (fun z=>ifb z.2 X Z) (fun _=>Z)) 0=if oq (sN m (ċ ids s)) then X else Z:=by
 have hm:((((m.1.1.1,m.1.1.2),m.1.2.1,m.1.2.2.1,m.1.2.2.2.1,m.1.2.2.2.2.1,m.1.2.2.2.2.2),m.2):Ĺ)=m:=rfl;have hl2:=uw h;have hcl:=pj ids s;refine Ň (Œ m.2) (lJ (sN m (ċ ids s))) (fun _=>X) X Z (fun _=>rfl) (fun i x hi' hx kn=>?_) (fun kn=>?_)
 ·try dsimp only
  unfold iR;rw[Ó hi',È hx,EH hi hs,À,hm,WR h.good.size.compares (by omega),À,EC h _ (rW hx),À,Í hi' (by omega),Č,Bool.not_not];rfl
 ·try dsimp only
  unfold iR;rw[ß]
def afj (h:MOk m) {ids:List Int} (hi:ids.length≤60) {s:Nat} (hs:s<9223372036854775808) {op:List Int} (ho:op.length≤1000) (k0 k1:List Int→Option ρ):Ë (fun(v:Int×List Int) kk=>Ŗ (s:Int) (Œ m.2) (Ú (Œ m.2)) ids m.1.1.1 m.1.1.2 m.1.2.1 m.1.2.2.1 m.1.2.2.2.1 m.1.2.2.2.2.1 m.1.2.2.2.2.2 m.2 v.1 v.2 (fun a b=>kk (a,b)) k0 k1) ((0:Int),op)=if oq (sN m (ċ ids s)) then k0 (op++[(s:Int)]) else k1 op:=by
 have hm:((((m.1.1.1,m.1.1.2),m.1.2.1,m.1.2.2.1,m.1.2.2.2.1,m.1.2.2.2.2.1,m.1.2.2.2.2.2),m.2):Ĺ)=m:=rfl;have hl2:=uw h;have hcl:=pj ids s;refine Lq (Œ m.2) (fun _=>op) _ (fun i=>∀w∈(Œ m.2).take i,lJ (sN m (ċ ids s)) w=false) rfl (fun w hw=>by simp at hw) (fun i x hi' hx hp kn=>?_) (fun hp kn=>?_)
 ·try dsimp only
  unfold Ŗ;rw[Ó hi',È hx,EH hi hs,À,hm,WR h.good.size.compares (by omega),À,EC h _ (rW hx),À,Í hi' (by omega),Ć (Ø (by simp; omega)),Č,Bool.not_not]
  cases hx2:lJ (sN m (ċ ids s)) x with
  |true =>
   refine .inl ?_;have:oq (sN m (ċ ids s))=true:=dc.2 ⟨x,cG hx,hx2⟩;rw[this]; rfl
  |false =>
   refine .inr ⟨fun w hw=>?_,rfl⟩;rw[take_succ hx] at hw;rcases cE.1 hw with hw|hw
   ·exact hp w hw
   ·rw[cH.1 hw]; exact hx2
 ·rw[fE] at hp
  try dsimp only
  unfold Ŗ
  have:oq (sN m (ċ ids s))=false:=dG.2 fun w hw=>by rw[show lJ (sN m (ċ ids s)) w=false from hp w hw]; simp
  rw[ß,this]; rfl
def afk {s:Nat} (hs:s<9223372036854775808) {op:List Nat} (ho:op.length≤1000) (hop:∀x∈op,x<9223372036854775808) (X Z:Option ρ):Ë (fun(v:Int) kk=>ŗ (s:Int) (Ú (op.map fun(x:Nat)=>(x:Int))) (op.map fun(x:Nat)=>(x:Int)) v (fun u=>kk u) (fun _=>X) (fun _=>Z)) 0=if op.any (ahr s) then X else Z:=by
 refine Ň op (ahr s) (fun _=>X) X Z (fun _=>rfl) (fun i x hi hx kn=>?_) (fun kn=>?_)
 ·try dsimp only
  unfold ŗ
  have hx':(op.map fun(x:Nat)=>(x:Int))[i]?=some (x:Int):=by rw[ej,hx]; rfl
  have hi':i<(op.map fun(x:Nat)=>(x:Int)).length:=by simpa using hi
  rw[Ó hi',ũ hi',Ę hx',sub_i hs (hop x (cG hx)),Í hi (by omega),Č]
 ·try dsimp only
  unfold ŗ;rw[Ñ,Î (by simp[ilt])]
def ahR {l m:List Int} (h:l.length=m.length) (hp:∀(i:Nat) (x y:Int),l[i]?=some x→m[i]?=some y→x=y):abJ l m=0:=by
 induction l generalizing m with
 |nil=>cases m with|nil=>rfl|cons _ _=>cases h
 |cons x l ih =>
  cases m with
  |nil=>cases h
  |cons y m =>
   have e:=hp 0 x y rfl rfl;subst e;rw[abJ,if_neg (by omega),if_neg (by omega)];exact ih (by simpa using h) fun i a b ha hb=>hp (i+1) a b ha hb
def lex_at {l m:List Int} {i:Nat} {x y:Int} (hx:l[i]?=some x) (hy:m[i]?=some y) (hp:∀(j:Nat) (a b:Int),j<i→l[j]?=some a→m[j]?=some b→a=b) (hne:x≠y):abJ l m=if x<y then -1 else 1:=by
 induction l generalizing m i with
 |nil=>simp at hx
 |cons a l ih =>
  cases m with
  |nil=>simp at hy
  |cons b m =>
   cases i with
   |zero =>
    simp at hx hy; subst hx hy;rw[abJ]
    split
    ·rfl
    ·rw[if_pos (by omega)]
   |succ i =>
    have e:=hp 0 a b (by omega) rfl rfl;subst e;rw[abJ,if_neg (by omega),if_neg (by omega)];exact ih (by simpa using hx) (by simpa using hy) fun j a b hj ha hb=>hp (j+1) a b (by omega) ha hb
def afl {l k:List Int} (h:k.length=l.length) (hl:l.length≤1000) (X Y:Option ρ):Ë (fun(v:Int) kk=>Ŷ l k (Ú k) v (fun u=>kk u) (fun z=>ifb (ige z (0:Int)) X Y) (fun _=>X)) 0=if 0≤abJ k l then X else Y:=by
 have:=Ě (r:=if 0≤abJ k l then X else Y) (f:=fun v kk=>Ŷ l k (Ú k) v (fun u=>kk u) (fun z=>ifb (ige z (0:Int)) X Y) (fun _=>X)) (x:=(0:Int)) (fun x=>∃i:Nat,x=i∧i≤k.length∧∀(j:Nat) (a b:Int),j<i→k[j]?=some a→l[j]?=some b→a=b) (fun x=>k.length-x.toNat) ?_ ⟨0,rfl,dB _,fun j a b hj=>by omega⟩
 ·exact this
 ·rintro x ⟨i,rfl,hi,hp⟩;rcases cV i k.length with hlt|hge
  ·have hx:k[i]?=some k[i]:=cw hlt;have hy:l[i]?=some l[i]:=cw (by omega)
   have hf:∀kn,Ŷ l k (Ú k) (i:Int) kn (fun z=>ifb (ige z (0:Int)) X Y) (fun _=>X)=if k[i]=l[i] then kn ((i:Int)+1) else if k[i]<l[i] then Y else X:=fun kn=>by
    unfold Ŷ;rw[Ó hlt,È hx,Î (by simp[ige,Ñ]; omega),È hy,aea,À,Í hlt (by omega)]
    by_cases h1:k[i]<l[i]
    ·rw[if_pos h1,if_neg (by omega),if_pos h1]; rfl
    ·rw[if_neg h1]
     by_cases h2:l[i]<k[i]
     ·rw[if_pos h2,if_neg (by omega),if_neg h1]; rfl
     ·rw[if_neg h2,if_pos (by omega)]; rfl
   by_cases he:k[i]=l[i]
   ·refine .inr ⟨(i:Int)+1,⟨i+1,by simp,hlt,fun j a b hj ha hb=>?_⟩,by omega,fun kn=>by rw[hf,if_pos he]⟩;rcases cV j i with h1|h1
    ·exact hp j a b h1 ha hb
    ·have:j=i:=by omega
     subst this;rw[hx] at ha; rw[hy] at hb;cases ha; cases hb;exact he
   ·refine .inl fun kn=>?_;rw[hf,if_neg he,lex_at hx hy hp he]
    by_cases h1:k[i]<l[i]
    ·rw[if_pos h1,if_pos h1]; rfl
    ·rw[if_neg h1,if_neg h1]; rfl
  ·refine .inl fun kn=>?_
   have:i=k.length:=by omega
   subst this;unfold Ŷ;rw[ß,ahR h fun j a b ha hb=>hp j a b (List.getElem?_eq_some_iff.1 ha).1 ha hb];rfl
abbrev stI (st:List Int×Nat×List Nat) (n:Nat):List Int×Int×Int×List Int:=(st.1,(st.2.1:Int),(n:Int),st.2.2.map fun(x:Nat)=>(x:Int))
def aav (h:MOk m) {ids:List Int} (hi:ids.length≤8) {n N:Nat} (hn:n<N) (hN:N≤256) {st:List Int×Nat×List Nat} (h1:st.1.length≤8) (ho:st.2.2.length≤n) (hop:∀x∈st.2.2,x<n) (kn:List Int→Int→Int→List Int→Option ρ) (k0:Int×List Int→Option ρ) :
 ŷ (Œ m.2) (N:Int) ids m.1.1.1 m.1.1.2 m.1.2.1 m.1.2.2.1 m.1.2.2.2.1 m.1.2.2.2.2.1 m.1.2.2.2.2.2 m.2 (stI st n).1 (stI st n).2.1 (stI st n).2.2.1 (stI st n).2.2.2 kn k0=kn (stI (Hw m ids st n) (n+1)).1 (stI (Hw m ids st n) (n+1)).2.1 (stI (Hw m ids st n) (n+1)).2.2.1 (stI (Hw m ids st n) (n+1)).2.2.2:=by
 have hcl:=pj ids n;dsimp only;unfold ŷ
 have hop':∀x∈st.2.2,x<9223372036854775808:=fun x hx=>by have:=hop x hx; omega
 have ho':(st.2.2.map fun(x:Nat)=>(x:Int)).length≤1000:=by rw[dl]; omega
 have e1:∀f:Int→Option ρ,ck ((n:Int)+(1:Int)) f=f ((n+1:Nat):Int):=fun f=>by rw[Ô (by omega) (by omega)]; simp
 rw[Ù (by simp[ilt]; omega),EH (by omega) (by omega),À];unfold Hw
 by_cases hgt:st.1.length<(ċ ids n).length
 ·rw[Ù (by simp[igt,Ñ]; omega),if_pos (.inl hgt),e1]
 ·rw[Î (by simp[igt,Ñ]; omega)]
  have inner:∀K1 K2:Option ρ,Ë (fun(v53:Int) kk55=>ŗ (n:Int) (Ú (st.2.2.map fun(x:Nat)=>(x:Int))) (st.2.2.map fun(x:Nat)=>(x:Int)) v53 (fun u54=>kk55 u54) (fun _=>ck ((n:Int)+(1:Int)) fun n38=>kn st.1 (st.2.1:Int) n38 (st.2.2.map fun(x:Nat)=>(x:Int))) (fun _=>Ë (fun(v49:Int×List Int) kk52=>Ŗ (n:Int) (Œ m.2) (Ú (Œ m.2)) ids m.1.1.1 m.1.1.2 m.1.2.1 m.1.2.2.1 m.1.2.2.2.1 m.1.2.2.2.2.1 m.1.2.2.2.2.2 m.2 v49.1 v49.2 (fun u50 u51=>kk52 (u50,u51)) (fun z45=>ck ((n:Int)+(1:Int)) fun n46=>kn st.1 (st.2.1:Int) n46 z45) (fun z47=>ck ((n:Int)+(1:Int)) fun n48=>kn (ċ ids n) (n:Int) n48 z47)) ((0:Int),st.2.2.map fun(x:Nat)=>(x:Int)))) (0:Int) =
   (fun s2=>kn (stI s2 (n+1)).1 (stI s2 (n+1)).2.1 (stI s2 (n+1)).2.2.1 (stI s2 (n+1)).2.2.2) (if st.2.2.any (ahr n) then st else if oq (sN m (ċ ids n)) then(st.1,st.2.1,st.2.2++[n]) else(ċ ids n,n,st.2.2)):=fun _ _=>by
   rw[afj h (by omega) (by omega) ho',afk (by omega) (by omega) hop',e1,e1,e1]
   cases st.2.2.any (ahr n) with
   |true=>rfl
   |false =>
    cases oq (sN m (ċ ids n)) with
    |true=>simp
    |false=>rfl
  by_cases heq:(ċ ids n).length=st.1.length
  ·rw[Ù (by simp[ieq,Ñ]; omega),inner none none,Î (show ilt (Ú (ċ ids n)) (Ú st.1)=false by simp[ilt,Ñ]; omega),afl heq (by omega),e1]
   by_cases hlex:0≤abJ (ċ ids n) st.1
   ·rw[if_pos hlex,if_pos (.inr ⟨heq,hlex⟩)]
   ·rw[if_neg hlex,if_neg (show ¬(st.1.length<(ċ ids n).length∨((ċ ids n).length=st.1.length∧0≤abJ (ċ ids n) st.1)) from fun h=>h.elim hgt fun h=>hlex h.2)]
  ·rw[Î (by simp[ieq,Ñ]; omega),inner none none,if_neg (show ¬(st.1.length<(ċ ids n).length∨((ċ ids n).length=st.1.length∧0≤abJ (ċ ids n) st.1)) from fun h=>h.elim hgt fun h=>heq h.1)]
def afe {ids:List Int} {n:Nat} {st:List Int×Nat×List Nat} (hi:ids.length≤8) (h1:st.1.length≤8) (h2:st.2.2.length≤n) (h3:∀x∈st.2.2,x<n):(Hw m ids st n).1.length≤8∧(Hw m ids st n).2.2.length≤n+1∧∀x∈(Hw m ids st n).2.2,x<n+1:=by
 have hcl:=pj ids n;unfold Hw
 split
 ·exact⟨h1,by omega,fun x hx=>by have:=h3 x hx; omega⟩
 split
 ·exact⟨h1,by omega,fun x hx=>by have:=h3 x hx; omega⟩
 split
 ·refine⟨h1,by simp; omega,fun x hx=>?_⟩;rcases cE.1 hx with hx|hx
  ·have:=h3 x hx; omega
  ·rw[cH.1 hx]; omega
 ·exact⟨by dsimp only; omega,by dsimp only; omega,fun x hx=>by have:=h3 x hx; omega⟩
def YQ {ids:List Int} (hi:ids.length≤8):∀n,(Hx m ids n).1.length≤8∧(Hx m ids n).2.2.length≤n∧∀x∈(Hx m ids n).2.2,x<n
 |0=>⟨hi,cz _,fun x hx=>by cases hx⟩
 |n+1=>by
  obtain⟨h1,h2,h3⟩:=YQ hi n;have:=afe (m:=m) hi h1 h2 h3;unfold Hx at this ⊢;rw[List.range_succ,List.foldl_append];exact this
def pow8 {n:Nat} (h:n≤8):1≤2 ^ n∧2 ^ n≤256:=⟨Nat.one_le_pow _ _ (by decide),Nat.pow_le_pow_right (by decide) h⟩
def ZJ {ids:List Int} (hi:ids.length≤8):∀n,n≤256→(Hx m ids n).2.1≤256
 |0,_=>by have:=(pow8 hi).2; show 2 ^ ids.length-1≤256; omega
 |n+1,hn=>by
  have ih:=ZJ hi n (by omega);unfold Hx at ih ⊢;rw[List.range_succ,List.foldl_append];show(Hw m ids _ n).2.1≤256;unfold Hw
  split
  ·exact ih
  split
  ·exact ih
  split
  ·exact ih
  ·dsimp only; omega
def Ys (hs:In m.1) (hn:m.2.length≤1000) {ids:List Int} (hil:ids.length≤1000000):rM m ids=some (aeS m ids):=by
 unfold rM xz aeS;rw[mS hs hn,À]
 by_cases hc:Ī m=0
 ·have h:=(Ĵ m).1 hc;rw[Î (by simp[ine,hc]),if_neg (by simp[hc])]
  by_cases h8:8<ids.length
  ·rw[Ù (by simp[igt,Ñ]; omega),if_pos h8]
  ·have hi:ids.length≤8:=by omega
   obtain⟨p1,p2⟩:=pow8 hi;rw[Î (by simp[igt,Ñ]; omega),if_neg h8,afo h.good.size.compares (by omega)]
   cases ids.all (fun i=>(XW m).contains i) with
   |false=>rfl
   |true =>
    rw[if_pos rfl,if_neg (by simp),afn (by omega)]
    by_cases hp:ids.Pairwise (·<·)
    ·have hsh:shlI .i64 (1:Int) (Ú ids)=((2 ^ ids.length:Nat):Int):=by
      unfold shlI;rw[Ñ,Int.toNat_natCast,Nat.min_eq_left (by show ids.length≤64; omega),Int.one_mul,show((2:Int) ^ ids.length)=((2 ^ ids.length:Nat):Int) by simp,abR (by omega)]
     have e0:((2 ^ ids.length:Nat):Int)-1=((2 ^ ids.length-1:Nat):Int):=by omega
     rw[if_pos hp,if_neg (by simpa using hp),I5 h,À,Ć (by simp[ile,Ñ]),hsh,Ô (by omega) (by omega),e0]
     have loop:Ë (fun(v91:List Int×Int×Int×List Int) kk96=>ŷ (Œ m.2) ((2 ^ ids.length-1:Nat):Int) ids m.1.1.1 m.1.1.2 m.1.2.1 m.1.2.2.1 m.1.2.2.2.1 m.1.2.2.2.2.1 m.1.2.2.2.2.2 m.2 v91.1 v91.2.1 v91.2.2.1 v91.2.2.2 (fun u92 u93 u94 u95=>kk96 (u92,u93,u94,u95)) (fun z89=>Ä (iE ids z89.1) fun r90=>some (r90,(0:Int)))) (ids,((2 ^ ids.length-1:Nat):Int),(0:Int),[])=some (ċ ids (Hx m ids (2 ^ ids.length-1)).2.1,0):=by
      refine Ě (fun x=>∃n:Nat,n≤2 ^ ids.length-1∧x=stI (Hx m ids n) n) (fun x=>2 ^ ids.length-1-x.2.2.1.toNat) ?_ ⟨0,dB _,rfl⟩;rintro x ⟨n,hn',rfl⟩;obtain⟨i1,i2,i3⟩:=YQ (m:=m) hi n;rcases cV n (2 ^ ids.length-1) with hlt|hge
      ·refine .inr ⟨stI (Hx m ids (n+1)) (n+1),⟨n+1,hlt,rfl⟩,by dsimp only; omega,fun kn=>?_⟩;have:=aav h hi hlt (by omega) i1 i2 i3 (fun a b c d=>kn (a,b,c,d)) (fun z89=>Ä (iE ids z89.1) fun r90=>some (r90,(0:Int)));rw[this];unfold Hx;rw[List.range_succ,List.foldl_append]; rfl
      ·have:n=2 ^ ids.length-1:=by omega
       subst this;refine .inl fun kn=>?_;have hf:=ZJ (m:=m) hi (2 ^ ids.length-1) (by omega);dsimp only;unfold ŷ;rw[Î (by simp[ilt])];dsimp only;rw[EH (by omega) (by omega)]; rfl
     have h3:=afm h (ids:=ids) (by omega) (s:=2 ^ ids.length-1) (by omega) (some ([],(5:Int))) (some (ċ ids (Hx m ids (2 ^ ids.length-1)).2.1,0));rw[loop,h3]
     split<;>rfl
    ·rw[if_neg hp,if_pos hp]
 ·rw[Ù (by simp[ine,hc]),if_pos hc]
end
def tX (b:Ď) (x d:Int):Int:=match jx (É b) x d with|some j=>(j:Int)+1|none=>0
def EQ (b:Ď) (n:Int×Int):Int×Int:=if ę b≠0 then(0,ę b) else if tX b n.1 n.2=0 then(0,5) else(tX b n.1 n.2,0)
def yF {b:Ď} (h:In b) (n:Int×Int):lz b n=some (EQ b n):=by
 have hl:=OK h.size;unfold lz Ll EQ;rw[vY h.size h.num,À]
 by_cases hc:ę b=0
 ·rw[Î (by simp[ine,hc]),if_neg (show ¬(ę b≠0) from fun h=>h hc),Qc h.size,À,show ð (É b) n=ð (É b) (n.1,n.2) from rfl,V7 (by omega),À];unfold tX
  cases hx:jx (É b) n.1 n.2 with
  |none=>rfl
  |some j =>
   have:=(km hx).1;simp only;rw[Î (by simp[ilt]),Ô (by omega) (by omega),if_neg (by omega)]
 ·rw[Ù (by simp[ine,hc]),if_pos hc]
def Ŏ (b:Ď) (n:Int×Int):Ď:=(b.1,b.2.1,b.2.2.1,b.2.2.2.1,b.2.2.2.2.1,b.2.2.2.2.2++[n])
def Vb {b:Ď} (h:ū b) (n:Int×Int):wu (Ŏ b n):=by
 have hs:=h.size;have:=h.nK;exact⟨hs.gauges,hs.uses,hs.loans,hs.compares,by simp[Ŏ]; omega,hs.piles⟩
def agH (b:Ď) (n:Int×Int):Ď×Int:=if ę b≠0 then(Yo,ę b) else if ę (Ŏ b n)≠0 then(Yo,ę (Ŏ b n)) else(Ŏ b n,0)
def aeV {b:Ď} (h:In b) (n:Int×Int):EB b n=some (agH b n):=by
 have hs:=h.size;have h1:=hs.gauges; have h2:=hs.uses; have h3:=hs.loans; have h4:=hs.compares; have h5:=hs.looks;unfold EB RC agH;rw[vY hs h.num,À]
 by_cases hc:ę b=0
 ·have hg:=(Ģ b).1 hc;rw[Î (by simp[ine,hc]),Ø (by omega),Am.iff_true,Ø (by omega),Am.iff_true,Ø (by omega),Am.iff_true,Ø (by omega),Am.iff_true,Ø (by omega),Am.iff_true,if_neg (show ¬(ę b≠0) from fun h=>h hc)];refine ĩ b.2.2.2.2.1 (fun _=>b.2.2.2.2.1) _ rfl (fun i d hi hd kn=>?_) (fun kn=>?_)
  ·dsimp only;unfold vA;obtain⟨p1,p2⟩:=hs.piles d (List.mem_of_getElem? hd)
   have e1:b.2.2.2.2.1.set i d=b.2.2.2.2.1:=by
    obtain⟨h,rfl⟩:=cB.1 hd;exact List.set_getElem_self h
   rw[Ó hi,ũ hi,Ę hd,Ø (by omega),Am.iff_true,Ø (by omega),Am.iff_true,ũ hi,Ę hd,cP];rw[show(d.1,d.2.1,d.2.2.1,d.2.2.2)=d from rfl,e1,ũ hi,jd hd,Í hi (by omega)];rw[show(d.1,d.2.1,d.2.2.1,d.2.2.2.1,d.2.2.2.2)=d from rfl,e1]
  ·try dsimp only
   unfold vA;rw[ß];dsimp only;rw[Ø (by simp only[List.length_singleton]; omega),Am.iff_true];rw[show ż (b.1,b.2.1,b.2.2.1,b.2.2.2.1,b.2.2.2.2.1,b.2.2.2.2.2++[n])=ż (Ŏ b n) from rfl,vY (Vb hg n) h.num,À]
   by_cases hc2:ę (Ŏ b n)=0
   ·rw[Î (by simp[ine,hc2]),if_neg (show ¬(ę (Ŏ b n)≠0) from fun h=>h hc2)];rfl
   ·rw[Ù (by simp[ine,hc2]),if_pos hc2];rfl
 ·rw[Ù (by simp[ine,hc]),if_pos hc];rfl
def rX (b:Ď) (n:Int×Int):Ď×Int:=if tX b n.1 n.2≠0 then(b,0) else if ę (Ŏ b n)≠0 then(Yo,ę (Ŏ b n)) else(Ŏ b n,0)
def MB {b:Ď} (h:ū b) (n:Int×Int):EQ b n=if tX b n.1 n.2=0 then(0,5) else(tX b n.1 n.2,0):=by
 unfold EQ;rw[if_neg (by simp[(Ģ b).2 h])]
structure aiq (B:Ď):Prop where
 good:ū B
 op:Μ (ķ B) ((É B).length+1)=true
 num:∀g∈B.2.1,I64 g.2.2.2.2.1.1
def XT (B:Ď) (n:Int×Int):0≤tX B n.1 n.2∧tX B n.1 n.2<((É B).length+1:Nat):=by
 unfold tX
 cases h:jx (É B) n.1 n.2 with
 |none=>dsimp only; omega
 |some j=>have:=(km h).1; dsimp only; omega
def sysR (B:Ď):Sys:=(((É B).length:Int)+1,ķ B)
def MH (B:Ď) (s t:Int):Int:=dst (ķ B) ((É B).length+1) s t
def ivR (B:Ď) (n:Int×Int):Int×Int:=(-(MH B (tX B n.1 n.2) 0),MH B 0 (tX B n.1 n.2))
def ahp (B:Ď):sysR B=((((É B).length+1:Nat):Int),ķ B):=by unfold sysR; push_cast; rfl
def PO (B:Ď):0≤(0:Int)∧(0:Int)<((É B).length+1:Nat):=by omega
def Pm {ρ α:Type} {l:List α} {i:Int} (h0:0≤i) {a:α} (h:l[i.toNat]?=some a) (f:α→Option ρ):đ l i f=f a:=by
 obtain⟨n,rfl⟩:=gF h0;exact È (by simpa using h) f
def i8 (x:List Int) (y:List Int) (l:Lk):List Int:=if gv x l.2.1=ŋ then y else y.set l.1.toNat (min (gv y l.1) (l.2.2+gv x l.2.1))
def PA (L:List Lk) (N:Nat) (x:List Int):List Int:=L.foldl (i8 x) (List.replicate N ŋ)
def exL (L:List Lk) (N:Nat) (to:Int):Nat→List Int
 |0=>(List.replicate N ŋ).set to.toNat 0
 |k+1=>PA L N (exL L N to k)
def lW (L:List Lk) (N:Nat) (to:Int) (most:Nat):List (List Int):=(List.range (most+1)).map (exL L N to)
section
variable {L:List Lk} {N:Nat}
def Gn (x y:List Int) (l:Lk):(i8 x y l).length=y.length:=by unfold i8; split<;>simp
def Gp (x:List Int):∀(M:List Lk) (y:List Int),(M.foldl (i8 x) y).length=y.length
 |[],y=>rfl
 |l::M,y=>by rw[fW,Gp x M,Gn]
def abe (x:List Int):(PA L N x).length=N:=by unfold PA; rw[Gp]; simp
def X3 (to:Int) (k:Nat):(exL L N to k).length=N:=by
 cases k with
 |zero=>simp[exL]
 |succ k=>exact abe _
def Lim (B:Int) (x:List Int):Prop:=∀v:Int,gv x v≠ŋ→-B≤gv x v∧gv x v≤B
def gv_out {x:List Int} {v:Int} (h:¬v.toNat<x.length):gv x v=0:=by
 unfold gv;rw[List.getElem?_eq_none (by omega)];rfl
def Lt {B:Int} (hB:0≤B):Lim B (List.replicate N ŋ):=by
 intro v hv
 by_cases h:v.toNat<N
 ·exfalso; apply hv;unfold gv;rw[List.getElem?_replicate,if_pos h];rfl
 ·rw[gv_out (by simpa using h)]; omega
def adk {B:Int} {y:List Int} (hy:Lim B y) {u:Int} (hu:0≤u) (hl:u.toNat<y.length) {a:Int} (ha:a≠ŋ→-B≤a∧a≤B):Lim B (y.set u.toNat a):=by
 intro v hv
 by_cases h:v.toNat=u.toNat
 ·have:gv (y.set u.toNat a) v=a:=by
   unfold gv;rw[h,List.getElem?_set_self hl];rfl
  rw[this] at hv ⊢;exact ha hv
 ·have:gv (y.set u.toNat a) v=gv y v:=by
   unfold gv;rw[List.getElem?_set_ne (fun e=>h e.symm)]
  rw[this] at hv ⊢;exact hy v hv
def Zs (hS:ž L N) {B:Int} (hB:0≤B) (hB2:B≤1000000000000000000) {x y:List Int} (hx:Lim B x) (hy:Lim (B+4503599627370496) y) (hl:y.length=N) {l:Lk} (hm:l∈L):Lim (B+4503599627370496) (i8 x y l):=by
 unfold i8
 split
 ·exact hy
 ·rename_i hf;have h1:=hS.inr l hm;have h2:=hS.most l hm;have h3:=hx _ hf;refine adk hy h1.1.1 (by omega) fun ha=>?_
  by_cases h4:gv y l.1=ŋ
  ·rw[h4] at ha ⊢
   have:min ŋ (l.2.2+gv x l.2.1)=l.2.2+gv x l.2.1:=by unfold ŋ; omega
   rw[this]; omega
  ·have:=hy _ h4;omega
def Zt (hS:ž L N) {B:Int} (hB:0≤B) (hB2:B≤1000000000000000000) {x:List Int} (hx:Lim B x):∀(M:List Lk),(∀l∈M,l∈L)→∀y:List Int,y.length=N→Lim (B+4503599627370496) y→Lim (B+4503599627370496) (M.foldl (i8 x) y)
 |[],_,y,_,hy=>hy
 |l::M,hM,y,hl,hy=>by
  rw[fW];exact Zt hS hB hB2 hx M (fun m hm=>hM m (by simp[hm])) _ (by rw[Gn,hl]) (Zs hS hB hB2 hx hy hl (hM l (by simp)))
def B0 (hS:ž L N) {to:Int} (ht:0≤to∧to<N):∀k:Nat,k≤200→Lim (k*4503599627370496) (exL L N to k)
 |0,_=>by
  unfold exL;exact adk (Lt (by omega)) ht.1 (by simp; omega) (fun _=>by omega)
 |k+1,hk=>by
  have:=Zt hS (B:=k*4503599627370496) (by omega) (by omega) (B0 hS ht k (by omega)) L (fun _ h=>h) (List.replicate N ŋ) (by simp) (Lt (by omega));unfold exL PA
  have e:(((k+1:Nat):Int)*4503599627370496)=(k:Int)*4503599627370496+4503599627370496:=by push_cast; omega
  rw[e];exact this
def Vv {ρ:Type} (hN:N≤1000) (K:List Int→Option ρ) {f:Int×List Int→(Int×List Int→Option ρ)→Option ρ}
 (hf:∀(v:Int×List Int) kk,f v kk=yP (N:Int) v.1 v.2 (fun u34 u35=>kk (u34,u35)) K):Ë f ((0:Int),List.replicate N (0:Int))=K (List.replicate N ŋ):=by
 refine ĩ (List.replicate N (0:Int)) (fun i=>List.replicate i ŋ++List.replicate (N-i) (0:Int)) _ (by simp) (fun i a hi ha kn=>?_) (fun kn=>?_)
 ·rw[hf];dsimp only;unfold yP;rw[List.length_replicate] at hi
  have hlen:(List.replicate i ŋ++List.replicate (N-i) (0:Int)).length=N:=by simp; omega
  have e1:ilt (i:Int) (N:Int)=true:=decide_eq_true (by omega);rw[Ù e1,show ñ (List.replicate i ŋ++List.replicate (N-i) (0:Int))=(N:Int) by unfold ñ; rw[hlen],Δ (by omega) (by omega),j6 (by rw[hlen]; omega),Ô (by omega) (by omega)];congr 2;rw[Int.toNat_natCast];rw[List.set_append_right _ _ (by simp),List.length_replicate,Nat.sub_self];rw[show N-i=(N-(i+1))+1 by omega,List.replicate_succ,List.set_cons_zero,List.replicate_succ'];simp
 ·rw[hf];dsimp only;unfold yP;rw[List.length_replicate];have e1:ilt (N:Int) (N:Int)=false:=decide_eq_false (by omega);rw[Î e1];simp
def okN (hN:N≤1000) {ρ:Type} (x:Option ρ):ç ((ile (0:Int) (N:Int))&&(î (Int.toNat (N:Int)))) x=x:=by
 rw[Ć];rw[cP,Ø (by omega),Bool.and_true];exact decide_eq_true (by omega)
def adj {ρ:Type} (hS:ž L N) {B:Int} (hB:0≤B) (hB2:B≤1000000000000000000) {x:List Int} (hx:Lim B x) (hxl:x.length=N) (K:List Int→Option ρ) :
 Ë (fun(v20:(Val (.pair tI (.slice tI)))) kk23=>Dq x L (Ú L) v20.1 v20.2 (fun u21 u22=>kk23 (u21,u22)) K) ((0:Int),List.replicate N ŋ)=K (PA L N x):=by
 have hl3:=hS.len;refine ĩ L (fun i=>(L.take i).foldl (i8 x) (List.replicate N ŋ)) _ rfl (fun i l hi hl kn=>?_) (fun kn=>?_)
 ·try dsimp only
  unfold Dq;have hm:=List.mem_of_getElem? hl;have h1:=hS.inr l hm;have h2:=hS.most l hm;rw[Ó hi,È hl,ke h1.2.1 (by omega),take_succ hl,List.foldl_append,Í hi (by omega)]
  have hlen:((L.take i).foldl (i8 x) (List.replicate N ŋ)).length=N:=by rw[Gp]; simp
  generalize (L.take i).foldl (i8 x) (List.replicate N ŋ)=y at hlen ⊢
  by_cases hf:gv x l.2.1=ŋ
  ·rw[Î (by rw[hf]; rfl)];simp only[List.foldl_cons,List.foldl_nil];unfold i8;rw[if_pos hf]
  ·have h3:=hx _ hf;rw[Ù (bne_iff_ne.2 hf),show ñ y=(N:Int) by unfold ñ; rw[hlen],Δ h1.1.1 h1.1.2,j6 (by omega),ke h1.2.1 (by omega),Ô (by omega) (by omega),Δ h1.1.1 h1.1.2,j6 (by omega),Í hi (by omega)];simp only[List.foldl_cons,List.foldl_nil];unfold i8;rw[if_neg hf,XR]
 ·try dsimp only
  unfold Dq;rw[ß,List.take_length];rfl
def af5 {ρ:Type}:@QN ρ=@yP ρ:=rfl
def Gl (to:Int) (m:Nat):(lW L N to m).length=m+1:=by simp[lW]
def Gm {to:Int} {m k:Nat} (hk:k≤m):(lW L N to m)[k]?=some (exL L N to k):=by
 unfold lW;rw[List.getElem?_map,List.getElem?_range (by omega)];rfl
def af4 (hS:ž L N) {to:Int} (ht:0≤to∧to<N) {most:Nat} (hm:most≤100):Ew ((N:Int),L) to (most:Int)=some (lW L N to most):=by
 have hN:=hS.n60
 unfold Ew Kt
 dsimp only;rw[okN (by omega),Int.toNat_natCast];refine(Vv (by omega) _ (fun v kk=>by rw[Ñ,List.length_replicate])).trans ?_;rw[show ñ (List.replicate N ŋ)=(N:Int) by simp[ñ],Δ ht.1 ht.2,j6 (by simp; omega)];refine ĩ (List.replicate most ()) (fun i=>lW L N to i) _ (by simp[lW,exL]) (fun i a hi ha kn=>?_) (fun kn=>?_)
 ·try dsimp only
  unfold II;rw[List.length_replicate] at hi;have e1:ilt (i:Int) (most:Int)=true:=decide_eq_true (by omega);rw[Ù e1,Ñ,Gl]
  have e2:(((i+1:Nat):Int)-1)=(i:Int):=by omega
  rw[e2,Ô (by omega) (by omega),show ñ (lW L N to i)=((i+1:Nat):Int) by unfold ñ; rw[Gl],Δ (by omega) (by omega),Int.toNat_natCast,jd (Gm (Nat.le_refl i)),okN (by omega),Int.toNat_natCast];rw[af5];refine(Vv (by omega) _ (fun v kk=>by rw[Ñ,List.length_replicate])).trans ?_;refine(adj hS (B:=i*4503599627370496) (by omega) (by omega) (B0 hS ht i (by omega)) (X3 _ _) _).trans ?_;rw[Ć (Ø (by simp only[Gl,List.length_singleton]; omega)),Ô (by omega) (by omega)];congr 2;unfold lW;rw[List.range_succ (n:=i+1),List.map_append];rfl
 ·try dsimp only
  unfold II;rw[List.length_replicate];have e1:ilt (most:Int) (most:Int)=false:=decide_eq_false (by omega);rw[Î e1]
def Qf (L:List Lk) (x:List Int) (good:Int→Bool) (u sum:Int):Option Nat:=L.findIdx? fun l=>l.1==u&&(decide (gv x l.2.1≠ŋ)&&good (sum+l.2.2+gv x l.2.1))
def oi (L:List Lk) (rest:Nat→List Int) (good:Int→Bool):Nat→Int→Int→List Int→List Int
 |0,_,_,out=>out
 |k+1,u,sum,out=>match Qf L (rest k) good u sum with
  |some i=>oi L rest good k (L[i]?.getD (0,0,0)).2.1 (sum+(L[i]?.getD (0,0,0)).2.2) (out++[(i:Int)])
  |none=>oi L rest good k u sum out
def folL {ρ:Type} (good:Int→Bool) (c0:Int) (c1:List (List Int)) (c2:List Lk) (c3:Int) (v0:Int) (v1:Int) (v2:Int) (v3:List Int) (kn:Int→Int→Int→List Int→Option ρ) (k0:Int×Int×List Int→Option ρ):Option ρ :=
 ifb (ilt v2 c3) (đ c2 v2 fun e7=>ifb (ieq e7.1 v0) (ck (c0-(1:Int)) fun n8=>đ c1 n8 fun e9=>đ e9 e7.2.1 fun e10=>ifb (ine e10 (1152921504606846976:Int)) (ck (v1+e7.2.2) fun n11=>ck (c0-(1:Int)) fun n12=>đ c1 n12 fun e13=>đ e13 e7.2.1 fun e14=>ck (n11+e14) fun n15=>ifb (good n15) (ç (î ((List.length v3)+(List.length ([v2])))) (ck (v1+e7.2.2) fun n16=>k0 (e7.2.1,n16,(v3++([v2]))))) (ck (v2+(1:Int)) fun n17=>kn v0 v1 n17 v3)) (ck (v2+(1:Int)) fun n18=>kn v0 v1 n18 v3)) (ck (v2+(1:Int)) fun n19=>kn v0 v1 n19 v3)) (k0 (v0,v1,v3))
def ahZ {ρ:Type} (hS:ž L N) (good:Int→Bool) {rest:List (List Int)} {k:Nat} {x:List Int} (hr:rest[k]?=some x) (hk:k≤100) (hx:Lim 1000000000000000000 x) (hxl:x.length=N) {u sum:Int} (hs : -1000000000000000000≤sum∧sum≤1000000000000000000) {out:List Int} (ho:out.length≤1000)
 (K:Int×Int×List Int→Option ρ):Ë (fun(v:Int×Int×Int×List Int) kk=>folL good ((k+1:Nat):Int) rest L (Ú L) v.1 v.2.1 v.2.2.1 v.2.2.2 (fun a b c d=>kk (a,b,c,d)) K) (u,sum,(0:Int),out) =
  match Qf L x good u sum with|some i=>K ((L[i]?.getD (0,0,0)).2.1,sum+(L[i]?.getD (0,0,0)).2.2,out++[(i:Int)])|none=>K (u,sum,out):=by
 have hl3:=hS.len;refine Ě (fun v=>∃i:Nat,i≤L.length∧v=(u,sum,(i:Int),out)∧∀j l,j<i→L[j]?=some l→(l.1==u&&(decide (gv x l.2.1≠ŋ)&&good (sum+l.2.2+gv x l.2.1)))=false) (fun v=>L.length-v.2.2.1.toNat) ?_ ⟨0,by omega,rfl,fun j l h=>by omega⟩;rintro v ⟨i,hi,rfl,hp⟩
 have e0:(((k+1:Nat):Int)-1)=(k:Int):=by omega
 rcases cV i L.length with h2|h2
 ·have hl:L[i]?=some L[i]:=cw h2;generalize L[i]=l at hl;have hm:=cG hl;have h1:=hS.inr l hm;have h4:=hS.most l hm
  have hstep:(l.1==u&&(decide (gv x l.2.1≠ŋ)&&good (sum+l.2.2+gv x l.2.1)))=false→∃y,(∃i:Nat,i≤L.length∧y=(u,sum,(i:Int),out)∧∀j l,j<i→L[j]?=some l→(l.1==u&&(decide (gv x l.2.1≠ŋ)&&good (sum+l.2.2+gv x l.2.1)))=false)∧(L.length-y.2.2.1.toNat<L.length-((u,sum,(i:Int),out):Int×Int×Int×List Int).2.2.1.toNat)∧y=(u,sum,(i:Int)+1,out):=fun hf =>
   ⟨_,⟨i+1,h2,by rw[show((i+1:Nat):Int)=(i:Int)+1 by push_cast; rfl],fun j m hj hm=>by
    rcases gB.1 hj with h|rfl
    ·exact hp j m h hm
    ·rw[hl] at hm; cases hm; exact hf⟩,by simp; omega,rfl⟩
  by_cases hf:(l.1==u&&(decide (gv x l.2.1≠ŋ)&&good (sum+l.2.2+gv x l.2.1)))=true
  ·refine .inl fun kn=>?_
   have hfi:Qf L x good u sum=some i:=by
    unfold Qf;rw[List.findIdx?_eq_some_iff_getElem];obtain⟨hh,rfl⟩:=List.getElem?_eq_some_iff.1 hl;exact⟨h2,hf,fun j hj=>by have:=hp j _ hj (List.getElem?_eq_getElem (by omega)); rw[this]; simp⟩
   rw[hfi];simp only[Bool.and_eq_true,beq_iff_eq,decide_eq_true_eq] at hf;have h5:=hx _ hf.2.1;dsimp only;unfold folL
   rw[Ó h2,È hl,Ù (by simp[hf.1]),e0,Ô (by omega) (by omega),È hr,ke h1.2.1 (by omega),Ù (bne_iff_ne.2 hf.2.1),Ô (by omega) (by omega),Ô (by omega) (by omega),È hr,ke h1.2.1 (by omega),Ô (by omega) (by omega),Ù hf.2.2,
    Ć (Ø (by simp; omega)),Ô (by omega) (by omega),hl]
   rfl
  ·have hf':=Bool.not_eq_true _▸hf;obtain⟨y,hy1,hy2,rfl⟩:=hstep hf';refine .inr ⟨_,hy1,hy2,fun kn=>?_⟩;dsimp only;unfold folL;rw[Ó h2,È hl,Í h2 (by omega)]
   by_cases g1:l.1=u
   ·rw[Ù (by simp[g1]),e0,Ô (by omega) (by omega),È hr,ke h1.2.1 (by omega)]
    by_cases g2:gv x l.2.1=ŋ
    ·rw[Î (by rw[g2]; rfl)]
    ·have h5:=hx _ g2
     have g3:good (sum+l.2.2+gv x l.2.1)=false:=by simpa[g1,g2] using hf'
     rw[Ù (bne_iff_ne.2 g2),Ô (by omega) (by omega),Ô (by omega) (by omega),È hr,ke h1.2.1 (by omega),Ô (by omega) (by omega),Î g3]
   ·rw[Î (by simpa using g1)]
 ·refine .inl fun kn=>?_
  obtain rfl:i=L.length:=by omega
  have hfi:Qf L x good u sum=none:=by
   unfold Qf;rw[List.findIdx?_eq_none_iff];intro l hl;obtain⟨j,hj,rfl⟩:=List.mem_iff_getElem.1 hl;exact hp j _ hj (List.getElem?_eq_getElem hj)
  rw[hfi];dsimp only;unfold folL;rw[ß]
def folM {ρ:Type} (good:Int→Bool) (c0:List (List Int)) (c6:List Lk) (v0:Int) (v1:Int) (v2:Int) (v3:List Int) (kn:Int→Int→Int→List Int→Option ρ) (k0:List Int→Option ρ):Option ρ :=
 ifb (igt v1 (0:Int)) (Ë (fun(v22:Int×Int×Int×List Int) kk27=>folL good v1 c0 c6 (Ú c6) v22.1 v22.2.1 v22.2.2.1 v22.2.2.2 (fun u23 u24 u25 u26=>kk27 (u23,u24,u25,u26)) (fun z20=>ck (v1-(1:Int)) fun n21=>kn z20.1 n21 z20.2.1 z20.2.2)) (v0,v2,(0:Int),v3)) (k0 v3)
def ahY {ρ:Type} (hS:ž L N) (good:Int→Bool) {rest:List (List Int)} {R:Nat→List Int} {k0:Nat} (hk:k0≤100) (hr:∀k,k<k0→rest[k]?=some (R k)) (hx:∀k,k<k0→Lim 900000000000000000 (R k)∧(R k).length=N) (u:Int) (K:List Int→Option ρ) :
 Ë (fun(v:Int×Int×Int×List Int) kk=>folM good rest L v.1 v.2.1 v.2.2.1 v.2.2.2 (fun a b c d=>kk (a,b,c,d)) K) (u,(k0:Int),(0:Int),[])=K (oi L R good k0 u 0 []):=by
 have key:=pQ (f:=fun(v:Int×Int×Int×List Int) kk=>folM good rest L v.1 v.2.1 v.2.2.1 v.2.2.2 (fun a b c d=>kk (a,b,c,d)) K) (F:=fun v=>K (oi L R good v.2.1.toNat v.1 v.2.2.1 v.2.2.2))
  (fun v=>∃k:Nat,v.2.1=k∧k≤k0∧(-(((k0-k:Nat):Int)*4503599627370496)≤v.2.2.1∧v.2.2.1≤((k0-k:Nat):Int)*4503599627370496)∧v.2.2.2.length≤k0-k) (fun v=>v.2.1.toNat) (fun v hv kn hk=>?_) (x:=(u,(k0:Int),0,[])) ⟨k0,rfl,cz _,by simp,by simp⟩
 ·rw[key]; simp
 ·obtain⟨u,k',sum,out⟩:=v;obtain⟨k,e,h1,h2,h3⟩:=hv;dsimp only at e h2 h3 hk ⊢;subst e;rw[Int.toNat_natCast] at hk ⊢;unfold folM
  cases k with
  |zero =>
   rw[Î (by rfl)];rfl
  |succ k =>
   rw[Ù (decide_eq_true (by omega))];have hh:=hx k (by omega)
   have hlim:Lim 1000000000000000000 (R k):=fun v hv=>by have:=hh.1 v hv; omega
   refine(ahZ hS good (hr k (by omega)) (by omega) hlim hh.2 (by omega) (by omega) _).trans ?_;unfold oi
   have e0:(((k+1:Nat):Int)-1)=(k:Int):=by omega
   cases hn:Qf L (R k) good u sum with
   |none =>
    dsimp only;rw[e0,Ô (by omega) (by omega),hk _ ⟨k,rfl,by omega,by dsimp only; omega,by dsimp only; omega⟩ (by simp)];simp
   |some i =>
    have hi:i<L.length:=by
     unfold Qf at hn;exact(List.findIdx?_eq_some_iff_getElem.1 hn).1
    have hl:L[i]?=some L[i]:=List.getElem?_eq_getElem hi;have h4:=hS.most L[i] (List.getElem_mem _);dsimp only;rw[hl];simp only[Option.getD_some];rw[e0,Ô (by omega) (by omega),hk _ ⟨k,rfl,by omega,by dsimp only; omega,by simp; omega⟩ (by simp)];simp
end
def A7 (L:List Lk):Int→Int→List Int→Int×Int×Bool
 |u,s,[]=>(u,s,true)
 |u,s,i::t=>if (L[i.toNat]?.getD (0,0,0)).1=u then A7 L (L[i.toNat]?.getD (0,0,0)).2.1 (s+(L[i.toNat]?.getD (0,0,0)).2.2) t else(0,0,false)
def A5 (L:List Lk) (i:Int):Bool:=decide (i<0)||decide ((L.length:Int)≤i)
def lm (L:List Lk) (l:List Int):Int:=if 80<l.length then 2 else if l.any (A5 L) then 1 else 0
def ZV (u:Int) (w:Int×Int×Bool):Int:=if w.2.2=true∧w.1=u∧w.2.1<0 then 0 else 8
def Š (L:List Lk) (l:List Int):Int :=
 if lm L l≠0 then lm L l else match l with
 |[]=>8
 |i::_=>ZV (L[i.toNat]?.getD (0,0,0)).1 (A7 L (L[i.toNat]?.getD (0,0,0)).1 0 l)
section
variable {L:List Lk} {N:Nat}
def aa8 (N:Int) (hL:L.length≤1000) (l:List Int):vJ (N,L) l=some (lm L l):=by
 unfold vJ BF lm;dsimp only;rw[Ñ]
 by_cases h:80<l.length
 ·rw[Ù (decide_eq_true (by omega)),if_pos h]
 ·rw[Î (decide_eq_false (by omega)),if_neg h,←Ñ l];refine(Ň l (A5 L) (fun z=>ifb (ige z 0) (some 1) (some 0)) (some 1) (some 0) (fun j=>by rw[show ige (j:Int) 0=true from decide_eq_true (by omega)]; rfl) (fun i a hi ha kn=>?_) (fun kn=>?_)).trans ?_
  ·try dsimp only
   unfold mN A5;rw[Ó hi,È ha,Í hi (by omega),Ñ,Č,Č]
   by_cases h1:a<0
   ·simp[ilt,h1]
   ·by_cases h2:(L.length:Int)≤a
    ·simp[ilt,ige,h1,h2]
    ·simp[ilt,ige,h1,h2]
  ·try dsimp only
   unfold mN;rw[ß]
  ·cases l.any (A5 L)<;>rfl
def XV {l:List Int} (h:lm L l=0):l.length≤80∧∀i∈l,0≤i∧i.toNat<L.length:=by
 unfold lm at h
 split at h
 ·omega
 ·rename_i h1
  split at h
  ·omega
  ·rename_i h2;refine⟨by omega,fun i hi=>?_⟩;have:=dG.1 (dR.2 h2) i hi;simp[A5] at this;omega
def ahk (hS:ž L N) (u:Int) {l:List Int} (h:lm L l=0):IW ((N:Int),L) u l=some (A7 L u 0 l):=by
 obtain⟨hl,hi⟩:=XV h;unfold IW QL;dsimp only
 have:=pQ (f:=fun(v7:Int×Int×Int) kk11=>uW l (Ú l) L v7.1 v7.2.1 v7.2.2 (fun u8 u9 u10=>kk11 (u8,u9,u10)) (fun z5=>some (z5.1,z5.2.1,z5.2.2)) (fun z6=>some (z6.1,z6.2,true)))
  (F:=fun v=>some (A7 L v.1 v.2.1 (l.drop v.2.2.toNat))) (fun v=>∃i:Nat,v.2.2=i∧i≤l.length∧(-(i*4503599627370496)≤v.2.1∧v.2.1≤i*4503599627370496)) (fun v=>l.length-v.2.2.toNat) (fun v hv kn hk=>?_) (x:=(u,(0:Int),(0:Int))) ⟨0,rfl,by omega,by simp⟩
 ·exact this
 ·obtain⟨w,s,n⟩:=v;obtain⟨i,e,h1,h2⟩:=hv;dsimp only at e h2 hk ⊢;subst e;rw[Int.toNat_natCast] at hk ⊢;unfold uW;rcases Nat.lt_or_ge i l.length with h3|h3
  ·have ha:l[i]?=some l[i]:=List.getElem?_eq_getElem h3;have hd:l.drop i=l[i]::l.drop (i+1):=List.drop_eq_getElem_cons h3;rw[hd];have hx:=hi l[i] (List.getElem_mem _);generalize l[i]=a at ha hx;have hg:L[a.toNat]?=some L[a.toNat]:=List.getElem?_eq_getElem hx.2;have hm:=hS.most _ (List.mem_of_getElem? hg);generalize L[a.toNat]=x at hg hm;rw[Ó h3,È ha,Pm hx.1 hg];unfold A7;rw[hg];simp only[Option.getD_some]
   by_cases hc:x.1=w
   ·rw[Î (by rw[hc]; exact bne_self_eq_false' _),if_pos hc,Ô (by omega) (by omega),Í h3 (by omega),hk _ ⟨i+1,by push_cast; rfl,h3,by dsimp only; push_cast; omega⟩ (by simp; omega)];simp
   ·rw[Ù (bne_iff_ne.2 hc),if_neg hc]
  ·obtain rfl:i=l.length:=by omega
   rw[ß,List.drop_length];rfl
def adt {ρ α:Type} (x:α) (t:List α) (f:α→Option ρ):đ (x::t) (0:Int) f=f x:=rfl
def Oj (hS:ž L N) (l:List Int):mQ ((N:Int),L) l=some (Š L l):=by
 have hl3:=hS.len;unfold mQ si Š;rw[jn hS,À,Î (by rfl),aa8 _ (by omega),À]
 by_cases h:lm L l=0
 ·rw[Î (by rw[h]; rfl),if_neg (by simp[h])]
  cases l with
  |nil=>rw[Ñ]; rfl
  |cons i t =>
   have hx:=(XV h).2 i (by simp);have hg:L[i.toNat]?=some L[i.toNat]:=List.getElem?_eq_getElem hx.2;generalize L[i.toNat]=x at hg;rw[Ñ,Î (beq_eq_false_iff_ne.2 (by simp; omega)),adt,Pm hx.1 hg,ahk hS x.1 h,À];dsimp only;rw[hg];dsimp only[Option.getD_some];generalize A7 L x.1 0 (i::t)=w;obtain⟨e,sum,ok⟩:=w;unfold ZV;dsimp only
   cases ok with
   |false=>rw[Ù (by rfl),if_neg (by simp)]
   |true =>
    rw[Î (by rfl)]
    by_cases h2:e=x.1
    ·rw[Î (by rw[h2]; exact bne_self_eq_false' _)]
     by_cases h3:sum<0
     ·rw[Î (decide_eq_false (by omega)),if_pos ⟨rfl,h2,h3⟩]
     ·rw[Ù (decide_eq_true (by omega)),if_neg (fun h=>h3 h.2.2)]
    ·rw[Ù (bne_iff_ne.2 h2),if_neg (fun h=>h2 h.2.1)]
 ·rw[Ù (bne_iff_ne.2 h),if_pos h]
end
def abn {L:List Lk} {N:Nat} (h:ž L N) (ho:Μ L N=true):nR ((N:Int),L)=some ([],5):=by
 have hN:=h.n60;unfold nR Dx;rw[jn h,À,Î (by rfl),pm h.links h.n1 (by omega),À,if_pos ho];rfl
def MA (b:Ď) (n:Int×Int):Prop:=∃g∈b.2.1,g.1=n.1∧n.2∈ã b g
def za {b:Ď} (h:ū b) {n:Int×Int}:tX b n.1 n.2≠0↔MA b n:=by
 unfold tX;constructor
 ·intro hne
  cases hx:jx (É b) n.1 n.2 with
  |none=>rw[hx] at hne; simp at hne
  |some j =>
   have hm:=List.mem_of_getElem? (km hx).2;unfold É at hm;obtain⟨g,hg,hd⟩:=List.mem_flatMap.1 hm;obtain⟨d,hd,e⟩:=List.mem_map.1 hd;simp only[Prod.mk.injEq] at e;obtain⟨e1,rfl⟩:=e;exact⟨g,hg,e1,hd⟩
 ·rintro⟨g,hg,e,hd⟩;obtain⟨i,hi,rfl⟩:=List.mem_iff_getElem.1 hg;obtain⟨k,hk,e2⟩:=List.mem_iff_getElem.1 hd;rw[←e,Qd h (List.getElem?_eq_getElem hi) (by rw[List.getElem?_eq_getElem hk,e2])];dsimp only;omega
def Vc {b:Ď} (n:Int×Int) (h':ū (Ŏ b n)):MA (Ŏ b n) n:=by
 have hu:=h'.looks n (by simp[Ŏ]);unfold GH at hu
 split at hu
 ·omega
 obtain⟨g,hg,_⟩:=Fl h' hu;obtain⟨hm,e⟩:=ig hg;refine⟨g,hm,e,?_⟩;unfold ã;rw[Cq];unfold VB Ŏ;simp only[List.mem_append,List.mem_map,List.mem_filter];exact .inr ⟨n,⟨.inr (by simp),by simp[e]⟩,rfl⟩
def acb {b:Ď} {n:Int×Int} (e:(rX b n).2=0):(rX b n=(b,0)∧tX b n.1 n.2≠0)∨(rX b n=(Ŏ b n,0)∧ū (Ŏ b n)∧tX b n.1 n.2=0):=by
 unfold rX at e ⊢
 split
 ·rename_i h; exact .inl ⟨rfl,h⟩
 ·rename_i h1;rw[if_neg h1] at e
  split
  ·rename_i h2; rw[if_pos h2] at e; exact absurd e h2
  ·rename_i h2; exact .inr ⟨rfl,(Ģ _).1 (by simpa using h2),by simpa using h1⟩
def Lr {b:Ď} {n:Int×Int} {f:Int→Int→Int} {z:Int}:Hist (Ŏ b n) f z↔Hist b f z :=
 ⟨fun h=>⟨fun g hg=>by have:=h.gauge g hg; exact⟨this.hi,this.lo,this.down,this.loss⟩,h.cmp⟩,fun h=>⟨fun g hg=>by have:=h.gauge g hg; exact⟨this.hi,this.lo,this.down,this.loss⟩,h.cmp⟩⟩
def Vy {b:Ď} (h:ū b) {y:List Int} (hy:y.length=(É b).length+1) (h0:gv y 0=0) (hp:Pot (ķ b) (gv y)):Oi b (y.drop 1)=(true,0):=by
 have e:0::y.drop 1=y:=by
  cases y with
  |nil=>simp at hy
  |cons a t =>
   have:a=0:=h0;rw[this]; rfl
 rw[aeY];refine⟨h,Vi.2 ⟨by simp; omega,fun n hn=>?_⟩,?_⟩
 ·obtain⟨i,hi,rfl⟩:=List.mem_iff_getElem.1 hn;rw[List.length_drop] at hi;have:=afw h hp (v:=((1+i:Nat):Int)) (by omega) (by omega);rw[h0] at this;unfold gv at this;rw[Int.toNat_natCast,List.getElem?_eq_getElem (by omega)] at this;rw[List.getElem_drop];simp only[Option.getD_some] at this;omega
 ·unfold adE;rw[e];exact adF.2 hp
theorem IA (L:List Lk) (N:Nat):(SJ L N).length=N:=by unfold SJ ň; rw[List.length_map,Ġ,ï]
theorem Wv {L:List Lk} {N:Nat} {v:Int} (h0:0≤v) (h1:v<N):gv (SJ L N) v=gv (ň L N) v-gv (ň L N) 0:=by
 have hl:(ň L N).length=N:=by unfold ň; rw[Ġ,ï]
 have h2:v.toNat<(ň L N).length:=by omega
 unfold SJ;generalize gv (ň L N) 0=z;unfold gv;rw[List.getElem?_map,List.getElem?_eq_getElem h2];rfl
theorem afh {L:List Lk} {N:Nat} (h:ž L N) (ho:Μ L N=true):Pot L (gv (SJ L N))∧gv (SJ L N) 0=0:=by
 have h2:=h.n60;have h1:=h.n1;obtain⟨p,hp⟩:=(Ų h.links (by omega)).1 ho;refine⟨fun u v m hl=>?_,by rw[Wv (by omega) (by omega)]; omega⟩;have hr:=h.inr _ hl
 have hlen:(ň L N).length=N:=by unfold ň; rw[Ġ,ï]
 have hu:gv (ň L N) u≤0:=(YO h.links (by omega) ho _ (List.mem_of_getElem? (Pn (by omega)))).2;have:=(yI h.links (by omega) hp).pot h.inr hl (by show gv (ň L N) u≠ŋ; unfold ŋ; omega);have e1:=Wv (L:=L) hr.1.1 hr.1.2;have e2:=Wv (L:=L) hr.2.1 hr.2.2;dsimp only at e1 e2;have e:gv (ň L N) v≤gv (ň L N) u+m:=this;omega
section
variable {B:Ď} (h:aiq B)
include h
theorem ZR {v:Int} (hv:0≤v∧v<((É B).length+1:Nat)):(-4503599627370496≤MH B 0 v∧MH B 0 v≤4503599627370496)∧(-4503599627370496≤MH B v 0∧MH B v 0≤4503599627370496):=by
 have a1:MH B 0 v≤4503599627370496:=abB h.good.sys h.good.tied h.op hv.1 hv.2;have a2:MH B v 0≤4503599627370496:=abA h.good.sys h.good.tied h.op hv.1 hv.2;have a3 : -(MH B v 0)≤MH B 0 v:=L4 h.good.sys h.good.tied h.op hv (PO B);omega
def kE (B:Ď) (u v:Int):List Lk:=ķ B++[(v,u,-(MH B u v))]
theorem Ji {u v:Int} (hu:0≤u∧u<((É B).length+1:Nat)) (hv:0≤v∧v<((É B).length+1:Nat)) (hne:v≠u) (hb : -4503599627370496≤MH B u v∧MH B u v≤4503599627370496):ž (kE B u v) ((É B).length+1):=by
 have hs:=h.good.sys;have hl:=Vg h.good;have hn:=h.good.nodes;have hc:=h.good.nC
 have q:∀l∈kE B u v,l∈ķ B∨l=(v,u,-(MH B u v)):=by
  intro l hl;rcases cE.1 hl with h|h
  ·exact .inl h
  ·exact .inr (cH.1 h)
 refine⟨hs.n1,hs.n60,by unfold kE; rw[List.length_append,hl]; simp only[List.length_singleton]; omega,fun l hl=>?_,fun l hl=>?_,fun l hl=>?_⟩
 ·rcases q l hl with h|rfl
  ·exact hs.inr l h
  ·exact⟨hv,hu⟩
 ·rcases q l hl with h|rfl
  ·exact hs.noloop l h
  ·exact hne
 ·rcases q l hl with h|rfl
  ·exact hs.most l h
  ·dsimp only; omega
theorem Oy {u v:Int} (hu:0≤u∧u<((É B).length+1:Nat)) (hv:0≤v∧v<((É B).length+1:Nat)) (hs:ž (kE B u v) ((É B).length+1)):Μ (kE B u v) ((É B).length+1)=true:=by
 have hN:=hs.n60;have ho:=L4 h.good.sys h.good.tied h.op hv hu;obtain⟨p,hp,e⟩:=ah8 h.good.sys h.good.tied h.op hv hu (t:=MH B u v) ho (dC _);refine(Ų hs.links (by omega)).2 ⟨p,fun a b m hl=>?_⟩;rcases cE.1 hl with h1|h1
 ·exact hp a b m h1
 ·rw[cH] at h1;cases h1;omega
theorem Tk {u v:Int} (hu:0≤u∧u<((É B).length+1:Nat)) (hv:0≤v∧v<((É B).length+1:Nat)) (hne:v≠u) (hb : -4503599627370496≤MH B u v∧MH B u v≤4503599627370496) :
 pV (sysR B) u v=some (SJ (kE B u v) ((É B).length+1),0):=by
 have hs:=Ji h hu hv hne hb;have hl:=h.good.sys.len;unfold pV KB;rw[ahp,agL h.good.sys hu hv,À,abH h.good.sys h.good.tied hu hv,if_pos h.op];dsimp only
 rw[Î (by rfl),Ć (Ø (by omega)),show dst (ķ B) ((É B).length+1) u v=MH B u v from rfl,Ô (by omega) (by omega),Ć (Ø (by simp only[dv]; omega)),Int.zero_sub,
  show ķ B++[(v,u,-(MH B u v))]=kE B u v from rfl,pm hs.links hs.n1 (by have:=hs.n60; omega),if_pos (Oy h hu hv hs),À]
theorem Tl {u v:Int} (hu:0≤u∧u<((É B).length+1:Nat)) (hv:0≤v∧v<((É B).length+1:Nat)) (hs:ž (kE B u v) ((É B).length+1)) :
 Pot (ķ B) (gv (SJ (kE B u v) ((É B).length+1)))∧gv (SJ (kE B u v) ((É B).length+1)) 0=0∧gv (SJ (kE B u v) ((É B).length+1)) v-gv (SJ (kE B u v) ((É B).length+1)) u=MH B u v:=by
 obtain⟨h1,h2⟩:=afh hs (Oy h hu hv hs);have h3:Pot (ķ B) (gv (SJ (kE B u v) ((É B).length+1))):=fun a b m hl=>h1 a b m (List.mem_append.2 (.inl hl));have h4:=X5 h.good.sys h.good.tied h.op hu hv h3;have h5:=h1 v u _ (List.mem_append.2 (.inr (List.mem_singleton.2 rfl)));refine⟨h3,h2,?_⟩;unfold MH at h5 ⊢;omega
def rI (B:Ď) (n:Int×Int) (upper:Bool):List Int :=
 (if upper then SJ (kE B 0 (tX B n.1 n.2)) ((É B).length+1) else SJ (kE B (tX B n.1 n.2) 0) ((É B).length+1)).drop 1
theorem Hl {n:Int×Int} (hn:MA B n) (upper:Bool):Oi B (rI B n upper)=(true,0)∧gv (0::rI B n upper) (tX B n.1 n.2)=(if upper then(ivR B n).2 else(ivR B n).1)∧(rI B n upper).length=(É B).length:=by
 have hr:=XT B n;have hz:=PO B;have hne:=(za h.good).2 hn;have hd:=ZR h hr
 have key:∀y:List Int,y.length=(É B).length+1→gv y 0=0→0::y.drop 1=y:=by
  intro y hy h0
  cases y with
  |nil=>simp at hy
  |cons a t =>
   have:a=0:=h0;rw[this]; rfl
 unfold rI
 cases upper with
 |true =>
  rw[if_pos rfl,if_pos rfl];have hs:=Ji h hz hr hne hd.1;obtain⟨p1,p2,p3⟩:=Tl h hz hr hs;have hl:=IA (kE B 0 (tX B n.1 n.2)) ((É B).length+1);refine⟨Vy h.good hl p2 p1,?_,by rw[List.length_drop,hl]; omega⟩;rw[key _ hl p2];unfold ivR;omega
 |false =>
  rw[if_neg (by simp),if_neg (by simp)];have hs:=Ji h hr hz (fun e=>hne e.symm) hd.2;obtain⟨p1,p2,p3⟩:=Tl h hr hz hs;have hl:=IA (kE B (tX B n.1 n.2) 0) ((É B).length+1);refine⟨Vy h.good hl p2 p1,?_,by rw[List.length_drop,hl]; omega⟩;rw[key _ hl p2];unfold ivR;dsimp only;omega
end
inductive Wk (L:List Lk) (to:Int):Nat→Int→Int→Prop
 |nil:Wk L to 0 to 0
 |step {k:Nat} {v w m d:Int}:(v,w,m)∈L→Wk L to k w d→Wk L to (k+1) v (m+d)
section
variable {L:List Lk} {N:Nat}
def Wk.snoc {u v m:Int} (hl:(u,v,m)∈L):∀{k:Nat} {s d:Int},Wk L u k s d→Wk L v (k+1) s (d+m):=by
 intro k s d h
 induction h with
 |nil =>
  have:=Wk.step hl (Wk.nil (L:=L) (to:=v))
  have e:m+0=0+m:=by omega
  rw[e] at this;exact this
 | @step k a w m' d h1 h2 ih =>
  have:=Wk.step h1 ih
  have e:m'+(d+m)=m'+d+m:=by omega
  rw[e] at this;exact this
def Wk.bd (hS:ž L N) {t:Int} {k:Nat} {s d:Int} (h:Wk L t k s d) : -(k*4503599627370496)≤d∧d≤k*4503599627370496:=by
 induction h with
 |nil=>omega
 | @step k v w m d h1 h2 ih =>
  have:=hS.most _ h1;dsimp only at this;push_cast;omega
def XX {v:Int} (h0:0≤v) (h1:v<N):gv (List.replicate N ŋ) v=ŋ:=by
 unfold gv;rw[List.getElem?_replicate,if_pos (by omega)];rfl
def afM {B:Int} (hB:B≤1100000000000000000) {x:List Int} (hx:Lim B x) (v:Int):gv x v≤ŋ:=by
 by_cases h:gv x v=ŋ
 ·omega
 ·have:=hx v h; unfold ŋ; omega
def En (hS:ž L N) {B:Int} (hB:0≤B) (hB2:B≤1000000000000000000) {x:List Int} (hx:Lim B x) {v:Int} (h0:0≤v) (h1:v<N) :
 ∀(M:List Lk),(∀l∈M,l∈L)→∀y:List Int,y.length=N→Lim (B+4503599627370496) y →
  gv (M.foldl (i8 x) y) v≤gv y v∧(∀w m,(v,w,m)∈M→gv x w≠ŋ→gv (M.foldl (i8 x) y) v≤m+gv x w) ∧
  (gv (M.foldl (i8 x) y) v=gv y v∨∃w m,(v,w,m)∈M∧gv x w≠ŋ∧gv (M.foldl (i8 x) y) v=m+gv x w)
 |[],_,y,_,_=>⟨dC _,fun _ _ h=>by simp at h,.inl rfl⟩
 |l::M,hM,y,hl,hy=>by
  rw[fW];have hlm:=hM l (by simp);obtain⟨i1,i2,i3⟩:=En hS hB hB2 hx h0 h1 M (fun m hm=>hM m (by simp[hm])) (i8 x y l) (by rw[Gn,hl]) (Zs hS hB hB2 hx hy hl hlm);have hr:=hS.inr l hlm;have hyF:=afM (by omega) hy
  -- the element behind one link
  have key:gv (i8 x y l) v≤gv y v∧(l.1=v→gv x l.2.1≠ŋ→gv (i8 x y l) v≤l.2.2+gv x l.2.1)∧(gv (i8 x y l) v=gv y v∨(l.1=v∧gv x l.2.1≠ŋ∧gv (i8 x y l) v=l.2.2+gv x l.2.1)):=by
   unfold i8
   by_cases hf:gv x l.2.1=ŋ
   ·rw[if_pos hf];exact⟨dC _,fun _ h=>absurd hf h,.inl rfl⟩
   ·rw[if_neg hf,rJ hr.1.1 h0 (by omega)]
    by_cases hv:v=l.1
    ·rw[if_pos hv,hv];refine⟨by omega,fun _ _=>by omega,?_⟩
     by_cases hc:gv y l.1≤l.2.2+gv x l.2.1
     ·exact .inl (by omega)
     ·exact .inr ⟨rfl,hf,by omega⟩
    ·rw[if_neg hv];exact⟨dC _,fun h=>absurd h.symm hv,.inl rfl⟩
  obtain⟨k1,k2,k3⟩:=key;refine⟨by omega,fun w m hm hw=>?_,?_⟩
  ·rcases cF.1 hm with h|h
   ·subst h;have:=k2 rfl hw;dsimp only at this;omega
   ·exact i2 w m h hw
  ·rcases i3 with h|⟨w,m,h,hw,e⟩
   ·rcases k3 with h'|⟨h',hw,e⟩
    ·exact .inl (h.trans h')
    ·refine .inr ⟨l.2.1,l.2.2,?_,hw,h.trans e⟩;rw[←h']; simp
   ·exact .inr ⟨w,m,by simp[h],hw,e⟩
def Sc (hS:ž L N) {to:Int} (ht:0≤to∧to<N):∀k:Nat,k≤200→∀v:Int,0≤v→v<N →
 (gv (exL L N to k) v≠ŋ→Wk L to k v (gv (exL L N to k) v))∧∀d,Wk L to k v d→gv (exL L N to k) v≤d∧gv (exL L N to k) v≠ŋ
 |0,_,v,h0,h1=>by
  unfold exL;rw[rJ ht.1 h0 (by simp; omega)]
  by_cases hv:v=to
  ·subst hv;rw[if_pos rfl];refine⟨fun _=>.nil,fun d hd=>?_⟩;cases hd;exact⟨dC _,by decide⟩
  ·rw[if_neg hv,XX h0 h1];refine⟨fun h=>absurd rfl h,fun d hd=>?_⟩;cases hd;exact absurd rfl hv
 |k+1,hk,v,h0,h1=>by
  have hlim:=B0 hS ht k (by omega);obtain⟨i1,i2,i3⟩:=En hS (B:=k*4503599627370496) (by omega) (by omega) hlim h0 h1 L (fun _ h=>h) (List.replicate N ŋ) (by simp) (Lt (by omega));have ih:=Sc hS ht k (by omega);unfold exL PA;refine⟨fun hf=>?_,fun d hd=>?_⟩
  ·rcases i3 with h|⟨w,m,h,hw,e⟩
   ·rw[XX h0 h1] at h; exact absurd h hf
   ·rw[e];have hwr:=(hS.inr _ h).2;exact .step h ((ih w hwr.1 hwr.2).1 hw)
  ·have hb:=Wk.bd hS hd
   cases hd with
   | @step k' v' w m d h h2 =>
    have hwr:=(hS.inr _ h).2;obtain⟨j1,j2⟩:=(ih w hwr.1 hwr.2).2 d h2;have:=i2 w m h j2;refine⟨by omega,?_⟩
    have hq:(m+d)≤1000000000000000000:=by push_cast at hb; omega
    intro hF;rw[hF] at this;unfold ŋ at this;omega
def af6 (hS:ž L N) {to:Int} (ht:0≤to∧to<N) {k:Nat} (hk:k+1≤200) {u:Int} (hu:0≤u∧u<N) (hf:gv (exL L N to (k+1)) u≠ŋ) :
 ∃w m,(u,w,m)∈L∧gv (exL L N to k) w≠ŋ∧gv (exL L N to (k+1)) u=m+gv (exL L N to k) w:=by
 have hlim:=B0 hS ht k (by omega);obtain⟨_,_,i3⟩:=En hS (B:=k*4503599627370496) (by omega) (by omega) hlim hu.1 hu.2 L (fun _ h=>h) (List.replicate N ŋ) (by simp) (Lt (by omega));have e:exL L N to (k+1)=L.foldl (i8 (exL L N to k)) (List.replicate N ŋ):=rfl;rw[e] at hf ⊢;rcases i3 with h|h
 ·rw[XX hu.1 hu.2] at h; exact absurd h hf
 ·exact h
def LO (hS:ž L N) {to:Int} (ht:0≤to∧to<N) (good:Int→Bool):∀(k:Nat),k≤200→∀(u sum:Int) (out:List Int),0≤u→u<N→gv (exL L N to k) u≠ŋ→good (sum+gv (exL L N to k) u)=true →
 ∃q,oi L (exL L N to) good k u sum out=out++q∧q.length=k∧(∀i∈q,A5 L i=false)∧∃s,A7 L u sum q=(to,s,true)∧good s=true
 |0,_,u,sum,out,h0,h1,hf,hg=>by
  have hu:u=to:=by
   have hw:=((Sc hS ht 0 (by omega) u h0 h1).1 hf);generalize gv (exL L N to 0) u=y at hw;cases hw;rfl
  subst hu
  have e:gv (exL L N u 0) u=0:=by
   unfold exL;rw[rJ ht.1 h0 (by simp; omega),if_pos rfl]
  rw[e,gA] at hg;exact⟨[],by simp[oi],rfl,by simp,sum,rfl,hg⟩
 |k+1,hk,u,sum,out,h0,h1,hf,hg=>by
  obtain⟨w,m,hl,hw,e⟩:=af6 hS ht hk ⟨h0,h1⟩ hf;unfold oi Qf
  cases hn:L.findIdx? (fun l=>l.1==u&&(decide (gv (exL L N to k) l.2.1≠ŋ)&&good (sum+l.2.2+gv (exL L N to k) l.2.1))) with
  |none =>
   have:=dA.1 hn (u,w,m) hl;rw[e,←Int.add_assoc] at hg;simp[hw,hg] at this
  |some i =>
   obtain⟨hi,hp,_⟩:=List.findIdx?_eq_some_iff_getElem.1 hn;have hg2:L[i]?=some L[i]:=List.getElem?_eq_getElem hi;have hm:=List.mem_of_getElem? hg2;generalize L[i]=x at hp hg2 hm;simp only[Bool.and_eq_true,beq_iff_eq,decide_eq_true_eq] at hp;obtain⟨p1,p2,p3⟩:=hp;have hr:=(hS.inr x hm).2;obtain⟨q,q1,q2,q3,s,q4,q5⟩:=LO hS ht good k (by omega) x.2.1 (sum+x.2.2) (out++[(i:Int)]) hr.1 hr.2 p2 p3;dsimp only;rw[hg2];simp only[Option.getD_some];refine⟨(i:Int)::q,by rw[q1]; simp,by simp[q2],fun j hj=>?_,s,?_,q5⟩
   ·rcases cF.1 hj with rfl|hj
    ·simp[A5]; omega
    ·exact q3 j hj
   ·unfold A7;rw[Int.toNat_natCast,hg2];simp only[Option.getD_some];rw[if_pos p1];exact q4
def afO {P:Int→Prop} {B:Int} (h:∃d,P d) (hB:∀d,P d→B≤d):∃d,P d∧∀e,P e→d≤e:=by
 obtain⟨d0,h0⟩:=h
 have:∀(n:Nat) (d:Int),P d→(d-B).toNat≤n→∃d,P d∧∀e,P e→d≤e:=by
  intro n
  induction n with
  |zero=>intro d hd hn; exact⟨d,hd,fun e he=>by have:=hB e he; have:=hB d hd; omega⟩
  |succ n ih =>
   intro d hd hn
   by_cases hx:∃e,P e∧e<d
   ·obtain⟨e,he,hl⟩:=hx;exact ih e he (by have:=hB e he; omega)
   ·exact⟨d,hd,fun e he=>by
     rcases gQ e d with q|q
     ·exact absurd ⟨e,he,q⟩ hx
     ·exact q⟩
 exact this _ d0 h0 (cz _)
def Wl.cutK {S:Int→Prop} {vs:List Int} {u d:Int} (h:Wl L S vs u d):∀x∈u::vs,∃vs1 d1 k d2,Wl L S vs1 x d1∧(x::vs1) <:+ (u::vs)∧Wk L u k x d2∧d=d1+d2∧k≤vs.length:=by
 induction h with
 | @nil v hv =>
  intro x hx;simp at hx;subst hx;exact⟨[],0,0,0,.nil hv,List.suffix_refl _,.nil,by omega,by simp⟩
 | @step vs u v m d hw hl ih =>
  intro x hx;rcases cF.1 hx with rfl|hx
  ·exact⟨u::vs,d+m,0,0,.step hw hl,List.suffix_refl _,.nil,by omega,by simp⟩
  ·obtain⟨vs1,d1,k,d2,g1,g2,g3,g4,g5⟩:=ih x hx;exact⟨vs1,d1,k+1,d2+m,g1,g2.trans (List.suffix_cons _ _),g3.snoc hl,by omega,by simp; omega⟩
def aaL (hS:ž L N) (hno:Μ L N=false):∃(k:Nat) (v d:Int),1≤k∧k≤N∧(0≤v∧v<N)∧Wk L v k v d∧d<0:=by
 have hn:=hS.n60;apply Classical.byContradiction;intro hc
 have hcl:∀{k:Nat} {v d:Int},1≤k→k≤N→(0≤v∧v<N)→Wk L v k v d→0≤d:=fun {k v d} h1 h2 h3 h4=>by
  rcases gQ d 0 with q|q
  ·exact absurd ⟨k,v,d,h1,h2,h3,h4,q⟩ hc
  ·exact q
 have hinr:∀l∈L,-4503599627370496≤l.2.2:=fun l hl=>(hS.most l hl).1
 let P:Int→Int→Prop:=fun v d=>∃vs,Wl L (fun u=>0≤u∧u<N) vs v d∧(v::vs).Nodup
 have hP:∀v:Int,0≤v∧v<N→∃d,P v d∧∀e,P v e→d≤e:=fun v hv=>afO (B:=-(60*4503599627370496)) ⟨0,[],.nil hv,by simp⟩ (by
  rintro d ⟨vs,h1,h2⟩;have q1:=h1.lowM hinr;have q2:=h1.short hS.inr (fun w hw=>hw) h2
  have:((vs.length:Nat):Int)*4503599627370496≤60*4503599627370496:=by omega
  omega)
 have ho:Μ L N=true:=by
  refine(Ų hS.links (by omega)).2 ⟨fun v=>if hv:0≤v∧v<(N:Int) then Classical.choose (hP v hv) else 0,fun u v m hl=>?_⟩;have hr:=hS.inr _ hl;dsimp only at hr;obtain⟨⟨vs,hw,hnd⟩,hu2⟩:=Classical.choose_spec (hP u hr.1);obtain⟨_,hv2⟩:=Classical.choose_spec (hP v hr.2);have e1:(if hv:0≤u∧u<(N:Int) then Classical.choose (hP u hv) else 0)=Classical.choose (hP u hr.1):=dif_pos hr.1;have e2:(if hv:0≤v∧v<(N:Int) then Classical.choose (hP v hv) else 0)=Classical.choose (hP v hr.2):=dif_pos hr.2;dsimp only;rw[e1,e2];generalize Classical.choose (hP u hr.1)=a at *;generalize Classical.choose (hP v hr.2)=b at *
  by_cases hv:v∈u::vs
  ·obtain⟨vs1,d1,k,d2,g1,g2,g3,g4,g5⟩:=hw.cutK v hv;have hlen:=hw.short hS.inr (fun w hw=>hw) hnd;have:=hcl (by omega) (by omega) hr.2 (g3.snoc hl);have:=hv2 d1 ⟨vs1,g1,hnd.sublist g2.sublist⟩;omega
  ·have:=hv2 (a+m) ⟨u::vs,hw.step hl,eG.2 ⟨hv,hnd⟩⟩;omega
 rw[hno] at ho;cases ho
def lE (L:List Lk) (N:Nat) (k:Nat) (l:Lk):Bool:=decide (gv (exL L N l.1 k) l.2.1≠ŋ)&&decide (l.2.2+gv (exL L N l.1 k) l.2.1<0)
def abC (hS:ž L N) (hno:Μ L N=false):∃k,k<N∧∃l∈L,lE L N k l=true:=by
 have hn:=hS.n60;obtain⟨k,v,d,h1,h2,h3,h4,h5⟩:=aaL hS hno
 cases h4 with
 |nil=>omega
 | @step k v w m d hl hk =>
  have hr:=hS.inr _ hl;obtain⟨e1,e2⟩:=(Sc hS h3 k (by omega) w hr.2.1 hr.2.2).2 d hk;refine⟨k,by omega,(v,w,m),hl,?_⟩;simp only[lE,cA,decide_eq_true_eq];exact⟨e2,by omega⟩
def VH (hS:ž L N) {k:Nat} (hk:k<N) {l:Lk} (hl:l∈L) (hb:lE L N k l=true) :
 ∃q,oi L (exL L N l.1) (fun n=>ilt n 0) (k+1) l.1 0 []=q∧q.length=k+1∧(∀i∈q,A5 L i=false)∧Š L q=0∧∃u s,A7 L u 0 q=(u,s,true)∧s<0:=by
 have hn:=hS.n60;have hr:=hS.inr _ hl;simp only[lE,cA,decide_eq_true_eq] at hb;have hlim:=B0 hS hr.1 k (by omega);obtain⟨_,i2,_⟩:=En hS (B:=k*4503599627370496) (by omega) (by omega) hlim hr.1.1 hr.1.2 L (fun _ h=>h) (List.replicate N ŋ) (by simp) (Lt (by omega));have h2:gv (exL L N l.1 (k+1)) l.1≤l.2.2+gv (exL L N l.1 k) l.2.1:=i2 l.2.1 l.2.2 hl hb.1
 have hne:gv (exL L N l.1 (k+1)) l.1≠ŋ:=fun h=>by rw[h] at h2; unfold ŋ at h2; omega
 obtain⟨q,q1,q2,q3,s,q4,q5⟩:=LO hS hr.1 (fun n=>ilt n 0) (k+1) (by omega) l.1 0 [] hr.1.1 hr.1.2 hne (by rw[Int.zero_add]; exact decide_eq_true (by omega));rw[dL] at q1;have hs:s<0:=of_decide_eq_true q5;refine⟨q,q1,q2,q3,?_,l.1,s,q4,hs⟩
 have hany:q.any (A5 L)=false:=by
  rw[dG]
  exact fun i hi=>by rw[q3 i hi]; simp
 cases q with
 |nil=>simp at q2
 |cons i t =>
  have hi:=q3 i (by simp);simp only[A5,gi,decide_eq_false_iff_not] at hi;have hg:L[i.toNat]?=some L[i.toNat]:=cw (by omega)
  have hfst:(L[i.toNat]?.getD (0,0,0)).1=l.1:=by
   unfold A7 at q4
   by_cases h:(L[i.toNat]?.getD (0,0,0)).1=l.1
   ·exact h
   ·rw[if_neg h] at q4; simp at q4
  have hix:lm L (i::t)=0:=by
   unfold lm;rw[if_neg (by omega),hany];rfl
  unfold Š;rw[hix,if_neg (by simp)];dsimp only;rw[hfst,q4];unfold ZV;dsimp only;rw[if_pos ⟨rfl,rfl,hs⟩]
end
def ZB {x:List Int} {k:Int} (h1:1≤k):gv (0::x) k=gv x (k-1):=by
 rw[ahU _ _ (by omega),if_neg (by omega)]
def YC {L:List Lk} {p:Int→Int} (hp:Pot L p):∀(l:List Int) (u s:Int),(∀i∈l,0≤i∧i.toNat<L.length)→(A7 L u s l).2.2=true→p (A7 L u s l).1-p u≤(A7 L u s l).2.1-s
 |[],u,s,_,_=>by simp[A7]
 |i::t,u,s,hi,hw=>by
  have hx:=hi i (by simp);have hg:L[i.toNat]?=some L[i.toNat]:=List.getElem?_eq_getElem hx.2;have hm:=List.mem_of_getElem? hg;generalize L[i.toNat]=x at hg hm;unfold A7 at hw ⊢;rw[hg] at hw ⊢;simp only[Option.getD_some] at hw ⊢
  split at hw
  ·rename_i hc;rw[if_pos hc];have h1:=hp x.1 x.2.1 x.2.2 hm;have h2:=YC hp t x.2.1 (s+x.2.2) (fun j hj=>hi j (by simp[hj])) hw;rw[hc] at h1;omega
  ·cases hw
section
variable {L:List Lk} {N:Nat}
def agh {ρ:Type} (c0:List (List Int)) (c6:List Lk):@xU ρ c0 c6=folM (fun n=>ilt n 0) c0 c6:=rfl
def wL (L:List Lk) (N:Nat):List (List (List Int)):=(List.range N).map fun(n:Nat)=>lW L N n N
def aar {L:List Lk} {N n:Nat} (h:n<N):(wL L N)[n]?=some (lW L N n N):=by
 unfold wL;rw[List.getElem?_map,List.getElem?_range h];rfl
def Ws {ρ:Type} (hS:ž L N) (K:List (List (List Int))→Option ρ) :
 Ë (fun(v56:Int×List (List (List Int))) kk59=>nz (Ú (List.replicate N ([]:(Val (.slice (.slice tI)))))) (N:Int) L v56.1 v56.2 (fun u57 u58=>kk59 (u57,u58)) K) ((0:Int),(List.replicate N ([]:(Val (.slice (.slice tI))))))=K (wL L N):=by
 have hN:=hS.n60;refine ĩ (List.replicate N ()) (fun i=>((List.range i).map fun(n:Nat)=>lW L N n N)++List.replicate (N-i) ([]:List (List Int))) _ (by simp) (fun i a hi ha kn=>?_) (fun kn=>?_)
 ·try dsimp only
  unfold nz;rw[List.length_replicate] at hi;rw[Ñ,List.length_replicate,Ù (decide_eq_true (by omega)),af4 hS ⟨by omega,by omega⟩ (by omega),À]
  have hlen:(((List.range i).map fun(n:Nat)=>lW L N n N)++List.replicate (N-i) ([]:List (List Int))).length=N:=by simp; omega
  rw[show ñ (((List.range i).map fun(n:Nat)=>lW L N n N)++List.replicate (N-i) ([]:List (List Int)))=(N:Int) by unfold ñ; rw[hlen],Δ (by omega) (by omega),Int.toNat_natCast]
  have hget:(((List.range i).map fun(n:Nat)=>lW L N n N)++List.replicate (N-i) ([]:List (List Int)))[i]?=some []:=by
   rw[fI (by simp),gG,if_pos (by simp; omega)]
  rw[jd hget,Ô (by omega) (by omega)];congr 2;rw[f9 _ _ (by simp),fH,eT]
  have e:N-i=(N-(i+1))+1:=by omega
  rw[e,fU];simp
 ·try dsimp only
  unfold nz;rw[Ñ,List.length_replicate,List.length_replicate,Î (decide_eq_false (by omega))];unfold wL;simp
def Td {ρ:Type} (hS:ž L N) {k:Nat} (hk:k<N) (k0:Unit→Option ρ) (k1:Int×List Int→Option ρ) (k2:Unit→Option ρ) :
 Ë (fun(v48:Int) kk50=>ny ((k:Int)+1) L (Ú L) (N:Int) L (wL L N) v48 (fun u49=>kk50 u49) k0 k1 k2) (0:Int) =
  match L.find? (lE L N k) with|some l=>k1 (0,oi L (exL L N l.1) (fun n=>ilt n 0) (k+1) l.1 0 [])|none=>k2 ():=by
 have hN:=hS.n60;have hl3:=hS.len;rw[R0];refine(jF L (lE L N k) (fun j=>match L[j.toNat]? with|some l=>k1 (0,oi L (exL L N l.1) (fun n=>ilt n 0) (k+1) l.1 0 [])|none=>k2 ()) (k2 ()) (fun i l hi hl kn=>?_) (fun kn=>?_)).trans ?_
 ·try dsimp only
  unfold ny;have hm:=List.mem_of_getElem? hl;have hr:=hS.inr l hm;have hmo:=hS.most l hm
  have hto:((l.1.toNat:Nat):Int)=l.1:=by omega
  have hg:(wL L N)[l.1.toNat]?=some (lW L N l.1 N):=by rw[aar (by omega),hto]
  have hol:ñ (wL L N)=(N:Int):=by simp[ñ,wL]
  have hlim:=B0 hS hr.1 k (by omega) l.2.1;rw[Ó hi,È hl,hol,Δ hr.1.1 hr.1.2,jd hg,show((k:Int)+1-1)=(k:Int) by omega,Ô (by omega) (by omega),È (Gm (by omega)),ke hr.2.1 (by rw[X3]; omega)];unfold lE
  by_cases h1:gv (exL L N l.1 k) l.2.1=ŋ
  ·rw[Ù (beq_iff_eq.2 h1),Í hi (by omega),if_neg (by simp[h1])]
  ·have hb:=hlim h1;rw[Î (beq_eq_false_iff_ne.2 h1),Ô (by omega) (by omega)]
   by_cases h2:l.2.2+gv (exL L N l.1 k) l.2.1<0
   ·rw[Î (decide_eq_false (by omega)),Î (decide_eq_false (by omega)),Δ hr.1.1 hr.1.2,jd hg,if_pos (by simp[h1,h2]),agh,cP,hl];have hex:∀j,j<k+1→(lW L N l.1 N)[j]?=some (exL L N l.1 j):=fun j hj=>Gm (by omega)
    have hx:∀j,j<k+1→Lim 900000000000000000 (exL L N l.1 j)∧(exL L N l.1 j).length=N:=fun j hj=>⟨fun w hw=>by
     have:=B0 hS hr.1 j (by omega) w hw; omega,X3 _ _⟩
    have:=ahY hS (fun n=>ilt n 0) (rest:=lW L N l.1 N) (R:=exL L N l.1) (k0:=k+1) (by omega) hex hx l.1 (fun z=>k1 (0,z));rw[show(((k+1:Nat):Int))=(k:Int)+1 by push_cast; rfl] at this;exact this
   ·rw[Ù (decide_eq_true (by omega)),Í hi (by omega),if_neg (by simp[h1,h2])]
 ·try dsimp only
  unfold ny;rw[ß]
 ·cases h:L.findIdx? (lE L N k) with
  |none=>rfl
  |some j=>dsimp only; rw[Int.toNat_natCast]
def ae0 (hS:ž L N) (hno:Μ L N=false):∃(K:Nat) (l:Lk),K<N∧(∀k,k<K→∀x∈L,lE L N k x=false)∧L.find? (lE L N K)=some l∧nR ((N:Int),L)=some (oi L (exL L N l.1) (fun n=>ilt n 0) (K+1) l.1 0 [],0):=by
 have hN:=hS.n60;obtain⟨K0,hK0,l0,hl0,hb0⟩:=abC hS hno
 -- the first number of links
 have hex:∃K,K≤K0∧(∃l∈L,lE L N K l=true)∧∀k,k<K→∀x∈L,lE L N k x=false:=by
  have:∀n:Nat,(∀k,k<n→∀x∈L,lE L N k x=false)∨∃K,K<n∧(∃l∈L,lE L N K l=true)∧∀k,k<K→∀x∈L,lE L N k x=false:=by
   intro n
   induction n with
   |zero=>exact .inl fun k hk=>by omega
   |succ n ih =>
    rcases ih with h|⟨K,h1,h2⟩
    ·by_cases hx:∃l∈L,lE L N n l=true
     ·exact .inr ⟨n,by omega,hx,h⟩
     ·refine .inl fun k hk x hxm=>?_;rcases fZ (Nat.le_of_lt_succ hk) with h1|rfl
      ·exact h k h1 x hxm
      ·exact dR.2 fun e=>hx ⟨x,hxm,e⟩
    ·exact .inr ⟨K,by omega,h2⟩
  rcases this (K0+1) with h|⟨K,h1,h2,h3⟩
  ·have:=h K0 (by omega) l0 hl0;rw[hb0] at this; cases this
  ·exact⟨K,by omega,h2,h3⟩
 obtain⟨K,hK,⟨l1,hl1,hb1⟩,hfirst⟩:=hex
 obtain⟨l,hl⟩:∃l,L.find? (lE L N K)=some l:=by
  cases h:L.find? (lE L N K) with
  |none=>have:=dU.1 h l1 hl1; exact absurd hb1 this
  |some l=>exact⟨l,rfl⟩
 refine⟨K,l,by omega,hfirst,hl,?_⟩;unfold nR Dx;rw[jn hS,À,Î (by rfl),pm hS.links hS.n1 (by omega),À,if_neg (by simp[hno]),Î (by rfl),okN (by omega),Int.toNat_natCast];refine(Ws hS _).trans ?_;refine Ě (fun v=>∃k:Nat,k≤K∧v=(k:Int)+1) (fun v=>(K+2)-v.toNat) ?_ ⟨0,by omega,rfl⟩;rintro v ⟨k,hk,rfl⟩;rcases Nat.lt_or_eq_of_le hk with h|rfl
 ·refine .inr ⟨((k+1:Nat):Int)+1,⟨k+1,h,rfl⟩,by omega,fun kn=>?_⟩;unfold ri;refine(Td hS (by omega) _ _ _).trans ?_
  have hnone:L.find? (lE L N k)=none:=dU.2 fun x hx=>by rw[hfirst k h x hx]; simp
  rw[hnone];dsimp only;rw[Ô (by omega) (by omega)];congr 1
 ·refine .inl fun kn=>?_;unfold ri;refine(Td hS (by omega) _ _ _).trans ?_;rw[hl]
end
def aci (L:List Lk) (N:Nat):List (Int×Int):=(List.range N).map fun(n:Nat)=>(-(dst L N n 0),dst L N 0 n)
section
variable {L:List Lk} {N:Nat}
def aau {n:Nat} (h:n<N):(aci L N)[n]?=some (-(dst L N n 0),dst L N 0 n):=by
 unfold aci;rw[List.getElem?_map,List.getElem?_range h];rfl
def agD (hS:ž L N) (ht:Iv L N) (ho:Μ L N=true):ud ((N:Int),L)=some (aci L N,0):=by
 have hN:=hS.n60;have hN1:=hS.n1;unfold ud Kz;rw[aaa hS (fun n hn=>by simp at hn) (by simp),À,if_pos ho,Î (by rfl),Mn hS.links hS.n1 (by omega) ho ⟨by omega,by omega⟩,À,okN (by omega),Int.toNat_natCast];have hlen0:(kh L N 0).length=N:=Mo 0;refine ĩ (List.replicate N ()) (fun i=>((List.range i).map fun(n:Nat)=>dst L N n 0)++List.replicate (N-i) (0:Int)) _ (by simp) (fun i a hi ha kn=>?_) (fun kn=>?_)
 ·try dsimp only
  unfold rh;rw[List.length_replicate] at hi;rw[Ñ,List.length_replicate,Ù (decide_eq_true (by omega)),Mn hS.links hS.n1 (by omega) ho ⟨by omega,by omega⟩,À,ke (by omega) (by rw[Mo]; simp; omega)]
  have hlen:(((List.range i).map fun(n:Nat)=>dst L N n 0)++List.replicate (N-i) (0:Int)).length=N:=by simp; omega
  rw[show ñ (((List.range i).map fun(n:Nat)=>dst L N n 0)++List.replicate (N-i) (0:Int))=(N:Int) by unfold ñ; rw[hlen],Δ (by omega) (by omega),Int.toNat_natCast]
  have hget:(((List.range i).map fun(n:Nat)=>dst L N n 0)++List.replicate (N-i) (0:Int))[i]?=some 0:=by
   rw[fI (by simp),gG,if_pos (by simp; omega)]
  rw[jd hget,Ô (by omega) (by omega)];congr 2;rw[f9 _ _ (by simp),fH,eT]
  have e:N-i=(N-(i+1))+1:=by omega
  rw[e,fU];simp[dst]
 ·try dsimp only
  unfold rh;rw[Ñ,List.length_replicate,List.length_replicate,Î (decide_eq_false (by omega))]
  have e0:((List.range N).map fun(n:Nat)=>dst L N n 0)++List.replicate (N-N) (0:Int)=(List.range N).map fun(n:Nat)=>dst L N n 0:=by simp
  rw[e0];refine ĩ (List.replicate N ()) (fun i=>(List.range i).map fun(n:Nat)=>(-(dst L N n 0),dst L N 0 n)) _ (by simp) (fun i a hi ha kn=>?_) (fun kn=>?_)
  ·try dsimp only
   unfold rg;rw[List.length_replicate] at hi
   have hget:((List.range N).map fun(n:Nat)=>dst L N n 0)[i]?=some (dst L N i 0):=by
    rw[ej,fT hi]; rfl
   have hb:=dst_bd hS ht ho (s:=(i:Int)) (t:=0) ⟨by omega,by omega⟩ ⟨by omega,by omega⟩;rw[Ñ,hlen0,Ù (decide_eq_true (by omega)),show ñ ((List.range N).map fun(n:Nat)=>dst L N n 0)=(N:Int) by simp[ñ],Δ (by omega) (by omega),cP,jd hget,Ô (by omega) (by omega),ke (by omega) (by rw[hlen0]; simp; omega),Ć (Ø (by simp only[dl,fJ,dv]; omega)),Ô (by omega) (by omega),Int.zero_sub];congr 2;rw[fH,eT];rfl
  ·try dsimp only
   unfold rg;rw[Ñ,hlen0,List.length_replicate,Î (decide_eq_false (by omega))];rfl
end
abbrev nT (m:Ĺ) (w:Way):Nat:=(É (trP m w)).length+1
abbrev sT (m:Ĺ) (w:Way):List Lk:=ķ (trP m w)
def A2 (L:List Lk) (N:Nat):List Int:=((nR ((N:Int),L)).getD ([],0)).1
def VI {L:List Lk} {N:Nat} (hS:ž L N) (hno:Μ L N=false):nR ((N:Int),L)=some (A2 L N,0)∧Š L (A2 L N)=0∧(A2 L N).length≤N:=by
 obtain⟨K,l,h1,_,h3,h4⟩:=ae0 hS hno;obtain⟨q,q1,q2,_,q4,_⟩:=VH hS h1 (fi h3) (fX h3)
 have e:A2 L N=q:=by unfold A2; rw[h4,q1]; rfl
 rw[e];exact⟨by rw[h4,q1],q4,by omega⟩
section
variable {m:Ĺ} {w:Way} {ρ:Type}
def YJ (n:Nat):(((n:Int)+1,ķ (trP m w)):Sys)=(((n+1:Nat):Int),ķ (trP m w)):=by simp
def aah (m:Ĺ):List (List Int)×Int:=if Ī m≠0 then([],Ī m) else if oq m then([],5) else((Œ m.2).map fun w=>A2 (sT m w) (nT m w),0)
def agG (hs:In m.1) (hn:m.2.length≤1000):Et m=some (aah m):=by
 unfold Et Kh aah;rw[mS hs hn,À]
 by_cases hc:Ī m=0
 ·have h:=(Ĵ m).1 hc;have hl2:=uw h;have hm:((((m.1.1.1,m.1.1.2),m.1.2.1,m.1.2.2.1,m.1.2.2.2.1,m.1.2.2.2.2.1,m.1.2.2.2.2.2),m.2):Ĺ)=m:=rfl;rw[Î (by simp[ine,hc]),if_neg (by simp[hc]),I5 h,À];refine Lq (Œ m.2) (fun i=>((Œ m.2).take i).map fun w=>A2 (sT m w) (nT m w)) _ (fun i=>∀w∈(Œ m.2).take i,lJ m w=false) rfl (fun w hw=>by simp at hw) (fun i x hi hx hp kn=>?_) (fun hp kn=>?_)
  ·try dsimp only
   unfold qW;have hg:=lY h (rW hx);rw[Ó hi,È hx,hm,ki h (rW hx),À,EO h (rW hx),À];dsimp only;rw[YJ]
   cases he:lJ m x with
   |true =>
    refine .inl ?_;rw[abn hg.sys he,À];have:oq m=true:=dc.2 ⟨x,cG hx,he⟩;rw[this]; rfl
   |false =>
    refine .inr ⟨fun w hw=>?_,?_⟩
    ·rw[take_succ hx] at hw;rcases cE.1 hw with hw|hw
     ·exact hp w hw
     ·rw[cH.1 hw]; exact he
    ·rw[(VI hg.sys he).1,À,Î (by rfl),Ć (Ø (by simp; omega)),Í hi (by omega),take_succ hx,eT]; rfl
  ·rw[fE] at hp
   try dsimp only
   unfold qW
   have:oq m=false:=dG.2 fun w hw=>by rw[show lJ m w=false from hp w hw]; simp
   rw[ß,fE,this]; rfl
 ·rw[Ù (by simp[ine,hc]),if_pos hc]
def vQ (m:Ĺ) (chains:List (List Int)):Bool:=(List.range (Œ m.2).length).all fun i=>match (Œ m.2)[i]?,chains[i]? with|some w,some c=>decide (Š (sT m w) c=0)|_,_=>false
def mJ (m:Ĺ) (chains:List (List Int)):Int:=if Ī m≠0 then Ī m else if chains.length≠(Œ m.2).length then 8 else if vQ m chains then 0 else 8
def ES (hs:In m.1) (hn:m.2.length≤1000) (chains:List (List Int)):jI m chains=some (mJ m chains):=by
 unfold jI sd mJ;rw[mS hs hn,À]
 by_cases hc:Ī m=0
 ·have h:=(Ĵ m).1 hc;have hl2:=uw h;have hm:((((m.1.1.1,m.1.1.2),m.1.2.1,m.1.2.2.1,m.1.2.2.2.1,m.1.2.2.2.2.1,m.1.2.2.2.2.2),m.2):Ĺ)=m:=rfl;rw[Î (by simp[ine,hc]),if_neg (by simp[hc]),I5 h,À]
  by_cases hl:chains.length=(Œ m.2).length
  ·rw[Î (by simp[ine,Ñ]; omega),if_neg (by simp[hl])];refine dV (Zq (Œ m.2).length (fun i=>match (Œ m.2)[i]?,chains[i]? with|some w,some c=>decide (Š (sT m w) c=0)|_,_=>false) (some 8) (some 0) (fun i hi kn=>?_) (fun kn=>?_)) ?_
   ·have hx:(Œ m.2)[i]?=some (Œ m.2)[i]:=cw hi;have hx2:chains[i]?=some chains[i]:=cw (by omega)
    try dsimp only
    unfold jg;rw[Ó hi,È hx,hm,ki h (rW hx),À,EO h (rW hx),À,È hx2];dsimp only;rw[YJ,Oj (lY h (rW hx)).sys,À,hx,hx2,Č,Í hi (by omega)];dsimp only
    by_cases he:Š (sT m (Œ m.2)[i]) chains[i]=0
    ·rw[if_neg (by simp[ine,he]),if_pos (by simpa using he)]
    ·rw[if_pos (by simp[ine,he]),if_neg (by simpa using he)]
   ·try dsimp only
    unfold jg;rw[ß]
   ·unfold vQ
    cases(List.range (Œ m.2).length).all fun i=>match (Œ m.2)[i]?,chains[i]? with|some w,some c=>decide (Š (sT m w) c=0)|_,_=>false<;>rfl
  ·rw[Ù (by simp[ine,Ñ]; omega),if_pos hl]
 ·rw[Ù (by simp[ine,hc]),if_pos hc]
def ER (m:Ĺ) (w:Way) (x:List Int):Int:=if rU m w≠0 then rU m w else if (Oi (trP m w) x).1 then 0 else 8
def MD (hs:In m.1) (hn:m.2.length≤1000) (hw:∀l∈w,l.length≤100000) (x:List Int):nQ m w x=some (ER m w x):=by
 unfold nQ xE ER;rw[Ms hs hn hw,À]
 by_cases hc:rU m w=0
 ·obtain⟨h,ho⟩:=vV.1 hc;rw[Î (by simp[ine,hc]),if_neg (by simp[hc]),ki h ho,À,ais (agJ h ho).size (agJ h ho).num,À]
  cases(Oi (trP m w) x).1<;>rfl
 ·rw[Ù (by simp[ine,hc]),if_pos hc]
def GC (m:Ĺ) (w:Way):Ď×Int:=if rU m w≠0 then(Yo,rU m w) else(trP m w,0)
def V5 (hs:In m.1) (hn:m.2.length≤1000) (hw:∀l∈w,l.length≤100000):oL m w=some (GC m w):=by
 unfold oL uO GC;rw[Ms hs hn hw,À]
 by_cases hc:rU m w=0
 ·obtain⟨h,ho⟩:=vV.1 hc;rw[Î (by simp[ine,hc]),if_neg (by simp[hc]),ki h ho]; rfl
 ·rw[Ù (by simp[ine,hc]),if_pos hc]; rfl
def WhoP (m:Ĺ) (w:Way) (x d:Int):Int×Int:=if rU m w≠0 then(0,rU m w) else if jG m.1 x d≠0 then(0,jG m.1 x d) else(ś m.2 w x d,0)
def aeR (hs:In m.1) (hn:m.2.length≤1000) (hw:∀l∈w,l.length≤100000) (x d:Int):LX m w x d=some (WhoP m w x d):=by
 unfold LX Xb WhoP;rw[Ms hs hn hw,À]
 by_cases hc:rU m w=0
 ·obtain⟨h,ho⟩:=vV.1 hc;rw[Î (by simp[ine,hc]),if_neg (by simp[hc]),RO hs.size.gauges,À]
  by_cases hk:jG m.1 x d=0
  ·rw[Î (by simp[ine,hk]),if_neg (by simp[hk]),h.who ho]; rfl
  ·rw[Ù (by simp[ine,hk]),if_pos hk]
 ·rw[Ù (by simp[ine,hc]),if_pos hc]
def rE (b:Ď) (x:Int):Prop:=∃g,ö b x=some g
def Lv {b:Ď} {x d:Int}:jG b x d=0↔(0≤d∧d≤20000)∧rE b x:=by
 unfold jG rE;rw[←Option.isSome_iff_exists]
 cases hd:I0 d with
 |false =>
  simp only[ff,if_true];simp only[I0,inP,gL,decide_eq_false_iff_not] at hd;constructor
  ·intro e; cases e
  ·rintro⟨e,_⟩; omega
 |true =>
  simp only[I0,inP,cA,decide_eq_true_eq] at hd
  cases ö b x<;>simp[hd]
def MOk.whoK (h:MOk m) (hw:ħ m.2 w) {d x:Int} (hx:rE m.1 x):rE m.1 (ś m.2 w x d) :=
 Wm (rE m.1) hw (fun y hy _ z hz=>let ⟨g,e,_⟩:=(h.mix hy).known z hz; ⟨g,e⟩) hx
def vD (b:Ď) (n:Int×Int):(Int×Int)×Int:=if (rX b n).2≠0 then((0,0),(rX b n).2) else(ivR (rX b n).1 n,0)
def ab9 {b:Ď} (h:aiq b) {n:Int×Int} (e:(rX b n).2=0):aiq (rX b n).1∧MA (rX b n).1 n:=by
 rcases acb e with⟨h1,h2⟩|⟨h1,h2,_⟩
 ·rw[h1];exact⟨h,(za h.good).1 h2⟩
 ·rw[h1];refine⟨⟨h2,?_,h.num⟩,Vc n h2⟩;obtain⟨f,z,hh⟩:=(Jw h.good).1 h.op;exact(Jw h2).2 ⟨f,z,Lr.2 hh⟩
def Lu {B:Ď} (h:aiq B) {n:Int×Int} (hn:MA B n) (K:(Int×Int)×Int→Option ρ) :
 (Ä (lz B n) fun r3=>Ä (g9 B) fun r4=>Ä (ud r4.1) fun r5=>ifb (ine r5.2 (0:Int)) (K (((0:Int),(0:Int)),r5.2)) (đ r5.1 r3.1 fun e6=>K (e6,(0:Int))))=K (ivR B n,0):=by
 have hI:In B:=⟨h.good.size,h.num⟩;have hi:=(za h.good).2 hn;have hr:=XT B n;have hsp:=agD h.good.sys h.good.tied h.op;rw[yF hI,À,EQ,if_neg (by simp[(Ģ _).2 h.good]),if_neg hi,V6 hI,À,SH,if_neg (by simp[(Ģ _).2 h.good])];dsimp only;rw[show((((É B).length:Int)+1,ķ B):Sys)=((((É B).length+1:Nat):Int),ķ B) by simp,hsp,À,Î (by rfl)];obtain⟨k,hk⟩:∃k:Nat,tX B n.1 n.2=k:=⟨(tX B n.1 n.2).toNat,by omega⟩;rw[hk,È (aau (by omega))];unfold ivR MH;rw[hk]
def adl {b:Ď} (h:aiq b) (n:Int×Int):ze b n=some (vD b n):=by
 have hI:In b:=⟨h.good.size,h.num⟩;have hc:=(Ģ _).2 h.good;unfold ze Fu vD;rw[yF hI,À]
 by_cases hi:tX b n.1 n.2=0
 ·have e1:(EQ b n).2=5:=by unfold EQ; rw[if_neg (by simp[hc]),if_pos hi]
  rw[Ù (by simp[ine,e1]),aeV hI,À,agH,if_neg (by simp[hc])]
  by_cases h2:ę (Ŏ b n)=0
  ·have e:rX b n=(Ŏ b n,0):=by unfold rX; rw[if_neg (by simp[hi]),if_neg (by simp[h2])]
   obtain⟨r1,r2⟩:=ab9 h (n:=n) (by rw[e]);rw[e] at r1 r2;rw[if_neg (by simp[h2]),Î (by rfl),Lu r1 r2,e,if_neg (by simp)]
  ·have e:rX b n=(Yo,ę (Ŏ b n)):=by unfold rX; rw[if_neg (by simp[hi]),if_pos h2]
   rw[if_pos h2,Ù (by simp[ine,h2]),e,if_pos h2]
 ·have e1:(EQ b n).2=0:=by unfold EQ; rw[if_neg (by simp[hc]),if_neg hi]
  have e:rX b n=(b,0):=by unfold rX; rw[if_pos hi]
  rw[Î (by simp[ine,e1]),←yF hI,Lu h ((za h.good).1 hi),e,if_neg (by simp)]
def adG {α β:Type} {f:α→Option β}:∀{l:List α} {i:Nat} {x:α} {e:β},l[i]?=some x→(∀w∈l.take i,f w=none)→f x=some e→l.findSome? f=some e
 |[],_,_,_,h,_,_=>by simp at h
 |y::l,0,x,e,h,_,he=>by simp at h; subst h; rw[fS,he]
 |y::l,i+1,x,e,h,hp,he=>by
  rw[fS,hp y (by simp)];exact adG (by simpa using h) (fun w hw=>hp w (by simp[hw])) he
abbrev Fnd:=List (Int×(Int×Int))
def aa9 (s t:Int×Int):Int×Int:=(min s.1 t.1,max s.2 t.2)
def adH (m:Ĺ) (label d:Int) (M:Fnd) (w:Way):Fnd :=
 JB (k:=tI) (v:=Ã) (ś m.2 w label d) (match lP (k:=tI) (v:=Ã) (ś m.2 w label d) M with|some s=>aa9 (vD (trP m w) (ś m.2 w label d,d)).1 s|none=>(vD (trP m w) (ś m.2 w label d,d)).1) M
def lV (m:Ĺ) (label d:Int) (l:List Way):Fnd:=l.foldl (adH m label d) []
def YB (m:Ĺ) (label d:Int) (w:Way):Int:=(vD (trP m w) (ś m.2 w label d,d)).2
def vX (m:Ĺ) (label d:Int):List (Int×Int×Int)×Int :=
 if Ī m≠0 then([],Ī m) else if jG m.1 label d≠0 then([],jG m.1 label d) else if ş m=[] then([],5) else
 match (ş m).findSome? fun w=>Wh (YB m label d w) with
 |some e=>([],e)
 |none=>(m.1.2.1.filterMap fun g=>(lP (k:=tI) (v:=Ã) g.1 (lV m label d (ş m))).map fun s=>(g.1,s),0)
def zb (hw:w∈ş m):ħ m.2 w∧lJ m w=true:=by
 obtain⟨h1,h2⟩:=dP.1 hw;exact⟨sE.1 h1,h2⟩
def ZD (h:MOk m):(ş m).length≤150:=cR (dX _ _) (uw h)
def act (h:MOk m) (hw:ħ m.2 w) (he:lJ m w=true):aiq (trP m w):=⟨lY h hw,he,h.in_.num⟩
def V9 (hs:In m.1) (hn:m.2.length≤1000) (label d:Int):t8 m label d=some (vX m label d):=by
 unfold t8 FD vX;rw[mS hs hn,À]
 by_cases hc:Ī m=0
 ·have h:=(Ĵ m).1 hc;have hG:=hs.size.gauges;have hgl:=ZD h;rw[Î (by simp[ine,hc]),if_neg (by simp[hc]),RO hG,À]
  by_cases hk:jG m.1 label d=0
  ·rw[Î (by simp[ine,hk]),if_neg (by simp[hk]),adw h,À]
   by_cases hnil:ş m=[]
   ·rw[Ù (by simp[ieq,Ñ,hnil]),if_pos hnil]
   ·have:(ş m).length≠0:=fun e=>hnil (cO.1 e);rw[Î (by simp[ieq,Ñ,hnil]),if_neg hnil];have key:∀(l:List Way),(∀w∈l,Wh (YB m label d w)=none)→l.findSome? (fun w=>Wh (YB m label d w))=none:=fun l hl=>List.findSome?_eq_none_iff.2 hl;refine Lq (ş m) (fun i=>lV m label d ((ş m).take i)) _ (fun i=>∀w∈(ş m).take i,Wh (YB m label d w)=none) rfl (fun w hw=>by simp at hw) (fun i x hi hx hp kn=>?_) (fun hp kn=>?_)
    ·obtain⟨x1,x2⟩:=zb (cG hx);have hroom:=act h x1 x2
     try dsimp only
     unfold oE;rw[Ó hi,È hx,show((((m.1.1.1,m.1.1.2),m.1.2.1,m.1.2.2.1,m.1.2.2.2.1,m.1.2.2.2.2.1,m.1.2.2.2.2.2),m.2):Ĺ)=m from rfl,h.who x1,À,ki h x1,À,adl hroom,À]
     by_cases he:YB m label d x=0
     ·refine .inr ⟨fun w hw=>?_,?_⟩
      ·rw[take_succ hx] at hw;rcases cE.1 hw with hw|hw
       ·exact hp w hw
       ·rw[cH.1 hw,he]; rfl
      ·unfold YB at he
       have hst:lV m label d ((ş m).take (i+1))=adH m label d (lV m label d ((ş m).take i)) x:=by rw[take_succ hx,lV,List.foldl_append]; rfl
       rw[Î (by simp[ine,he]),hst];unfold adH MF
       cases lP (k:=tI) (v:=Ã) (ś m.2 x label d) (lV m label d ((ş m).take i)) with
       |none=>dsimp only; rw[Í hi (by omega)]
       |some s =>
        dsimp only;rw[Í hi (by omega),XR,ads]; rfl
     ·refine .inl ?_
      have hfs:(ş m).findSome? (fun w=>Wh (YB m label d w))=some (YB m label d x):=by
       exact adG hx hp (by simp[Wh,he])
      rw[hfs];unfold YB at he ⊢;rw[Ù (by simp[ine,he])]
    ·rw[fE] at hp
     try dsimp only
     unfold oE;rw[ß,key _ hp,List.take_length];dsimp only;refine ĩ m.1.2.1 (fun i=>(m.1.2.1.take i).filterMap fun g=>(lP (k:=tI) (v:=Ã) g.1 (lV m label d (ş m))).map fun s=>(g.1,s)) _ rfl (fun i g hi hg kn'=>?_) (fun kn'=>?_)
     ·try dsimp only
      unfold oD;have hle:((m.1.2.1.take i).filterMap fun g=>(lP (k:=tI) (v:=Ã) g.1 (lV m label d (ş m))).map fun s=>(g.1,s)).length≤1000:=Nat.le_trans (List.length_filterMap_le _ _) (by rw[List.length_take]; omega);rw[Ó hi,È hg,take_succ hg,List.filterMap_append];unfold MF
      cases hmg:lP (k:=tI) (v:=Ã) g.1 (lV m label d (ş m)) with
      |none=>simp only[List.filterMap_cons,hmg,Option.map_none,List.filterMap_nil,cW]; rw[Í hi (by omega)]
      |some s =>
       simp only[List.filterMap_cons,hmg,dF,List.filterMap_nil];rw[Ć (Ø (by rw[dv]; omega)),Í hi (by omega)]
     ·try dsimp only
      unfold oD;rw[ß,List.take_length]
  ·rw[Ù (by simp[ine,hk]),if_pos hk]
 ·rw[Ù (by simp[ine,hc]),if_pos hc]
end
def ac7 {ρ α:Type} [DecidableEq α] {l m:List α} (hl:l.length=m.length) (K:Bool→Option ρ) {f:Int→(Int→Option ρ)→Option ρ}
 (h:∀(i:Nat) (a b:α),i<l.length→l[i]?=some a→m[i]?=some b→∀kn,f i kn=if a=b then kn ((i:Int)+1) else K false) (hn:∀kn,f l.length kn=K true):Ë f 0=K (decide (l=m)):=by
 refine dV (mA l (fun i a=>if m[i]?=some a then none else some false) K (K true) (fun i a hi ha kn=>?_) hn) ?_
 ·have hm:m[i]?=some m[i]:=cw (by omega);rw[h i a _ hi ha hm,hm]
  by_cases he:a=m[i]
  ·simp[he]
  ·have:¬m[i]=a:=fun e=>he e.symm;simp[he,this]
 ·cases h:Ņ (fun i a=>if m[i]?=some a then none else some false) 0 l with
  |none=>simp[Tf hl h]
  |some b =>
   obtain⟨h1,h2⟩:=Te h;simp[h1,h2]
def abE {a b:Way} (hn:a.length≤1000000) (hl:∀l∈a,l.length≤1000000):rN a b=some (decide (a=b)):=by
 unfold rN xI;rw[Ñ,Ñ]
 by_cases he:a.length=b.length
 ·rw[Î (by simp[ine,he])];refine ac7 he some (fun i x y hi hx hy kn=>?_) (fun kn=>?_)
  ·try dsimp only
   unfold la;rw[Ó hi,È hx,È hy,Mz (hl x (List.mem_of_getElem? hx)),À,Í hi (by omega),Č]
   by_cases h:x=y<;>simp[h]
  ·try dsimp only
   unfold la;rw[ß]
 ·rw[Ù (by simp[ine]; omega)];have:a≠b:=fun e=>he (by rw[e]);simp[this]
def aef {L:List Lk} {p:Int→Int} (hp:Pot L p) (c:List Int):Š L c≠0:=by
 unfold Š
 by_cases h2:lm L c=0
 case neg=>rw[if_pos h2]; exact h2
 rw[if_neg (by simp[h2])];have hi:=(XV h2).2
 cases c with
 |nil=>exact(by decide:(8:Int)≠0)
 |cons i t =>
  dsimp only;unfold ZV
  split
  ·rename_i h3;have:=YC hp (i::t) (L[i.toNat]?.getD (0,0,0)).1 0 hi h3.1;rw[h3.2.1] at this;have:=h3.2.2;omega
  ·decide
def aee {m:Ĺ} {w:Way} (h:MOk m) (hw:ħ m.2 w) {c:List Int} (hc:Š (sT m w) c=0):lJ m w=false:=by
 rw[dR];intro he;have hg:=lY h hw;have hn:=hg.sys.n60;obtain⟨p,hp⟩:=(Ų hg.sys.links (by omega)).1 he;exact aef hp c hc
def acD {m:Ĺ} (h:MOk m) {chains:List (List Int)} (hc:vQ m chains=true):∀w∈Œ m.2,lJ m w=false:=by
 intro w hw;obtain⟨i,hi,rfl⟩:=cM.1 hw;have:=cX.1 hc i (f7.2 hi);rw[cw hi] at this
 cases hx:chains[i]? with
 |none=>rw[hx] at this; cases this
 |some c =>
  rw[hx] at this;exact aee h (sE.1 hw) (of_decide_eq_true this)
def Tq {m:Ĺ} (h:MOk m) (hs:oq m=false):vQ m ((Œ m.2).map fun w=>A2 (sT m w) (nT m w))=true:=by
 refine cX.2 fun i hi=>?_;rw[f7] at hi;have hx:(Œ m.2)[i]?=some (Œ m.2)[i]:=cw hi;have hw:(Œ m.2)[i]∈Œ m.2:=fc hi;rw[ej,hx];have he:=dG.1 hs _ hw;exact decide_eq_true (VI (lY h (sE.1 hw)).sys (dR.2 he)).2.1
def exM (l:List Cmp):Ĺ:=(((0,2),[(1,0,1000,(-5,5),(1,10),1),(2,0,1000,(-50,50),(1,4),0),(3,0,1100,(-1,1),(0,1),0)],[(1,10)],[(1,(20,29),3)],(7,10,[1],[2],-20,1,100,200)::l,[]),[(12,[2,3])])
def ex8:Cmp:=(8,15,[2],[1],100,1,0,0)
def ex9:Cmp:=(9,15,[3],[],1100,0,0,0)
def adO {l:List Cmp} (hl:l.length≤10) (hp:∀c∈l,c.2.2.1.length≤10∧c.2.2.2.1.length≤10):In (exM l).1:=by
 refine⟨⟨by simp[exM],by simp[exM],by simp[exM],by simp[exM]; omega,by simp[exM],fun c hc=>?_⟩,fun g hg=>?_⟩
 ·rcases cF.1 (show c∈(7,10,[1],[2],-20,1,100,200)::l from hc) with rfl|hc
  ·exact⟨by decide,by decide⟩
  ·have:=hp c hc; omega
 ·simp only[exM,cF,gh,or_false] at hg
  rcases hg with rfl|rfl|rfl<;>exact⟨by decide,by decide⟩
def w0:Ī (exM [])=0∧Ī (exM [ex8])=0∧Ī (exM [ex8,ex9])=0:=by decide +kernel
def w1:Œ (exM []).2=[[[2,3]],[[3,2]]]:=by decide +kernel
def w2:ş (exM [])=[[[2,3]],[[3,2]]]:=by decide +kernel
def w3:XL (exM [ex8])=([[3,2]],0):=by decide +kernel
def w4:vX (exM [ex8]) 2 15=([(3,1099,1101)],0):=by decide +kernel
def w5:aiu (exM [ex8,ex9])=([8,9],0):=by decide +kernel
def w6:aeS (exM [ex8,ex9]) [7,8,9]=([8,9],0):=by decide +kernel
def w7:GB (exM [ex8,ex9]) 2=(false,0):=by decide +kernel
def w8:oq (exM [ex8,ex9])=false:=by decide +kernel
def w9:WhoP (exM [ex8,ex9]) [[3,2]] 2 13=(3,0):=by decide +kernel
def aax:i5=some true:=by
 have i0:In (exM []).1:=adO (by decide) (by simp);have i1:In (exM [ex8]).1:=adO (by decide) (by decide);have i2:In (exM [ex8,ex9]).1:=adO (by decide) (by decide)
 have n:∀l,(exM l).2.length≤1000:=fun l=>by simp[exM]
 have h0:=(Ĵ _).1 w0.1;have h2:=(Ĵ _).1 w0.2.2;have e0:ŭ []=some (exM []):=rfl;have e1:ŭ [((8:Int),(15:Int),[(2:Int)],[(1:Int)],(100:Int),(1:Int),(0:Int),(0:Int))]=some (exM [ex8]):=rfl;have e2:ŭ [((8:Int),(15:Int),[(2:Int)],[(1:Int)],(100:Int),(1:Int),(0:Int),(0:Int)),((9:Int),(15:Int),[(3:Int)],[],(1100:Int),(0:Int),(0:Int),(0:Int))]=some (exM [ex8,ex9]):=rfl
 have hp:aah (exM [ex8,ex9])=((Œ (exM [ex8,ex9]).2).map (fun w=>A2 (sT (exM [ex8,ex9]) w) (nT (exM [ex8,ex9]) w)),0):=by
  unfold aah; rw[if_neg (by simp[w0.2.2]),w8]; rfl
 have c1:mJ (exM [ex8,ex9]) ((Œ (exM [ex8,ex9]).2).map fun w=>A2 (sT (exM [ex8,ex9]) w) (nT (exM [ex8,ex9]) w))=0:=by
  unfold mJ;rw[if_neg (by simp[w0.2.2]),if_neg (by simp),Tq h2 w8]; rfl
 have c2:∀c,mJ (exM []) c=8:=fun c=>by
  unfold mJ;rw[if_neg (by simp[w0.1])]
  split
  ·rfl
  ·rw[if_neg];intro hc;have:=acD h0 hc [[2,3]] (by rw[w1]; simp)
   have h3:[[2,3]]∈ş (exM []):=by rw[w2]; simp
   rw[(zb h3).2] at this;cases this
 unfold i5 Bj;rw[e0,À,aip i0 (n _),À,if_neg (by simp[w0.1]),À,ae1 i0 (n _),À,if_neg (by simp[w0.1]),e1,À,aeX i1 (n _),À,À,V9 i1 (n _),À,e2,À,ait i2 (n _),À,Ys i2 (n _) (by simp),À,V4 i2 (n _),À,w1,w2,w3,w4,w5,w6,w7];rw[agG i2 (n _),À,hp,Î (by rfl),Î (by rfl),Î (by rfl),Î (by rfl),Î (by rfl),Î (by rfl),Î (by rfl),Î (by simp[ine,Ñ]),Î (by simp[ine,Ñ]),Î (by rfl)];rw[show ∀f:Way→Option Bool,đ [[[2,3]],[[3,2]]] (1:Int) f=f [[3,2]] from fun f=>rfl];dsimp only;rw[aeR i2 (n _) (by decide),À,w9,Î (by rfl),Î (by rfl),Î (by rfl),ES i2 (n _),À,c1,Î (by rfl),À,ES i0 (n _),À,c2,Î (by rfl)];rw[abE (by decide) (by decide),À,Ù (by rfl),Ù (by simp[ieq,Ñ])];rw[show ∀f:Int×Int×Int→Option Bool,đ [((3:Int),(1099:Int),(1101:Int))] (0:Int) f=f (3,1099,1101) from fun f=>rfl];dsimp only;rw[Ù (by rfl),Mz (by decide),À,Ù (by rfl),À];rfl
def ac8 {ρ α:Type} (l:List α) (K:Option ρ) {f:Int→(Int→Option ρ)→Option ρ} (h:∀(i:Nat) (a:α),i<l.length→l[i]?=some a→∀kn,f i kn=kn ((i:Int)+1)) (hn:∀kn,f l.length kn=K):Ë f 0=K:=by
 refine dV (jF l (fun _=>false) (fun _=>K) K (fun i a hi ha kn=>by rw[h i a hi ha kn]; rfl) hn) ?_;rw[dA.2 (by simp)]
def bigP (c:Cmp):Bool:=decide (9<c.2.2.1.length)||decide (9<c.2.2.2.1.length)
def Jc (m:Ĺ):Bool:=decide (m.1.2.1.length≤6)&&(decide (m.1.2.2.1.length≤20)&&(decide (m.1.2.2.2.1.length≤6)&&(decide (m.1.2.2.2.2.1.length≤8)&&(decide (m.1.2.2.2.2.2.length≤6)&&decide (m.2.length≤6)))))
def Ta (m:Ĺ):Bool:=!((m.1.2.2.2.2.1.take 60).any bigP)&&(!((m.2.take 8).any fun x=>decide (9<x.2.length))&&Jc m)
def acj (m:Ĺ):zc m=some (Ta m):=by
 unfold zc Fm
 have last:(ifb (ile (Ú m.1.2.1) (6:Int)) (ifb (ile (Ú m.1.2.2.1) (20:Int)) (ifb (ile (Ú m.1.2.2.2.1) (6:Int)) (ifb (ile (Ú m.1.2.2.2.2.1) (8:Int)) (ifb (ile (Ú m.1.2.2.2.2.2) (6:Int)) (some (ile (Ú m.2) (6:Int))) (some false)) (some false)) (some false)) (some false)) (some false))=some (Jc m):=by
  have e:∀(n m:Nat),ile (n:Int) (m:Int)=decide (n≤m):=fun n m=>by simp[ile]
  unfold Jc;rw[Ñ,Ñ,Ñ,Ñ,Ñ,Ñ,show(6:Int)=((6:Nat):Int) from rfl,show(20:Int)=((20:Nat):Int) from rfl,show(8:Int)=((8:Nat):Int) from rfl,e,e,e,e,e,e];generalize decide (m.1.2.1.length≤6)=x1;generalize decide (m.1.2.2.1.length≤20)=x2;generalize decide (m.1.2.2.2.1.length≤6)=x3;generalize decide (m.1.2.2.2.2.1.length≤8)=x4;generalize decide (m.1.2.2.2.2.2.length≤6)=x5
  cases x1<;>cases x2<;>cases x3<;>cases x4<;>cases x5<;>rfl
 rw[last];refine dV (Ň (m.1.2.2.2.2.1.take 60) bigP (fun _=>some false) (some false) (some (!((m.2.take 8).any fun x=>decide (9<x.2.length))&&Jc m)) (fun _=>rfl) (fun i c hi hc kn=>?_) (fun kn=>?_)) ?_
 ·try dsimp only
  unfold ox;rw[List.length_take] at hi
  have hc':m.1.2.2.2.2.1[i]?=some c:=by rw[dI] at hc; split at hc<;>simp_all
  rw[Ó (show i<m.1.2.2.2.2.1.length by omega),Ù (by simp[ilt]; omega),È hc',È hc',Ô (by omega) (by omega),Č,Ñ,Ñ];unfold bigP
  by_cases h1:9<c.2.2.1.length
  ·rw[if_pos (by simp[igt]; omega),if_pos (by simp[h1])]
  ·rw[if_neg (by simp[igt]; omega),Č]
   by_cases h2:9<c.2.2.2.1.length
   ·rw[if_pos (by simp[igt]; omega),if_pos (by simp[h2])]
   ·rw[if_neg (by simp[igt]; omega),if_neg (by simp[h1,h2])]
 ·refine dV ?_ (dV (Ň (m.2.take 8) (fun x=>decide (9<x.2.length)) (fun _=>some false) (some false) (some (Jc m)) (f:=fun v kk=>kJ m.2 v (fun u=>kk u) (fun z=>some z) (fun _=>some (Jc m))) (fun _=>rfl) (fun i x hi hx kn'=>?_) (fun kn'=>?_)) ?_)
  ·try dsimp only
   unfold ox;rw[List.length_take,Č]
   split
   ·rename_i h
    have h':60<m.1.2.2.2.2.1.length:=by rw[Ñ] at h; simp[ilt] at h; omega
    rw[Î (by simp[ilt]; omega)]
   ·rfl
  ·try dsimp only
   unfold kJ;rw[List.length_take] at hi
   have hx':m.2[i]?=some x:=by rw[dI] at hx; split at hx<;>simp_all
   rw[Ó (show i<m.2.length by omega),Ù (by simp[ilt]; omega),È hx',Ô (by omega) (by omega),Č,Ñ]
   by_cases h1:9<x.2.length
   ·rw[if_pos (by simp[igt]; omega),if_pos (by simp[h1])]
   ·rw[if_neg (by simp[igt]; omega),if_neg (by simp[h1])]
  ·try dsimp only
   unfold kJ;rw[List.length_take,Č]
   split
   ·rename_i h
    have h':8<m.2.length:=by rw[Ñ] at h; simp[ilt] at h; omega
    rw[Î (by simp[ilt]; omega)]
   ·rfl
  ·cases List.any (List.take 8 m.2) (fun x=>decide (9<x.2.length))<;>rfl
 ·unfold Ta
  cases List.any (List.take 60 m.1.2.2.2.2.1) bigP<;>rfl
structure Small7 (m:Ĺ):Prop where
 inn:In m.1
 n6:m.2.length≤6
 l9:∀x∈m.2,x.2.length≤9
 c8:m.1.2.2.2.2.1.length≤8
def ack {m:Ĺ} (h:Ta m=true) (hn:∀g∈m.1.2.1,I64 g.2.2.2.2.1.1):Small7 m:=by
 simp only[Ta,Jc,cA,dS,decide_eq_true_eq] at h;obtain⟨h0,h1,h2,h3,h4,h5,h6,h7⟩:=h;refine⟨⟨⟨by omega,by omega,by omega,by omega,by omega,fun c hc=>?_⟩,hn⟩,h7,fun x hx=>?_,h5⟩
 ·rw[dT (by omega)] at h0;have:=dG.1 h0 c hc;simp[bigP] at this;omega
 ·rw[dT (by omega)] at h1;have:=dG.1 h1 x hx;simp at this;omega
def abW {m:Ĺ} (h:MOk m) {w:Way} (hw:ħ m.2 w):∀l∈w,l.length≤100000:=by
 intro l hl;obtain⟨i,hi,rfl⟩:=cM.1 hl;obtain⟨x,hx⟩:∃x,m.2[i]?=some x:=⟨_,cw (by rw[←hw.len]; exact hi)⟩;obtain⟨l',h1,h2⟩:=hw.at hx;rw[cw hi] at h1;cases h1;have:=h.len5 x (cG hx);rw[h2.length_eq]; omega
def OT (x y:Int) (s:Int×Int):∀M:Fnd,lP (k:=tI) (v:=Ã) x (JB (k:=tI) (v:=Ã) y s M)=if x=y then some s else lP (k:=tI) (v:=Ã) x M
 |[]=>by
  unfold JB lP ź lP
  by_cases h:x=y<;>simp[h]
 |e::M=>by
  unfold JB
  by_cases h:y=e.1
  ·have:ź tI y e.1=true:=by simp[ź,h]
   rw[this];simp only;unfold lP
   by_cases hx:x=y
   ·subst hx; simp[ź]
   ·have:ź tI x y=false:=by simp[ź,hx]
    have h2:ź tI x e.1=false:=by simp[ź,←h,hx]
    rw[this,if_neg hx];simp only[h2]
  ·have:ź tI y e.1=false:=by simp[ź,h]
   rw[this];simp only;unfold lP
   by_cases hx:x=e.1
   ·subst hx;rw[if_neg (fun e=>h e.symm)];simp[ź]
   ·have h2:ź tI x e.1=false:=by simp[ź,hx]
    rw[h2];exact OT x y s M
section
variable {m:Ĺ} {label d:Int}
def YA (m:Ĺ) (label d:Int) (w:Way):Int×Int:=(vD (trP m w) (ś m.2 w label d,d)).1
def ahf (m:Ĺ) (label d:Int) (l:List Way) (g:Int):Option (Int×Int)→Prop
 |none=>∀w∈l,ś m.2 w label d≠g
 |some s=>(∃w∈l,ś m.2 w label d=g∧(YA m label d w).1=s.1)∧(∃w∈l,ś m.2 w label d=g∧(YA m label d w).2=s.2)∧∀w∈l,ś m.2 w label d=g→s.1≤(YA m label d w).1∧(YA m label d w).2≤s.2
def abb (l:List Way) (w:Way):lV m label d (l++[w])=adH m label d (lV m label d l) w:=by rw[lV,List.foldl_append]; rfl
def Pr (g:Int):∀n (l:List Way),l.length=n→ahf m label d l g (lP (k:=tI) (v:=Ã) g (lV m label d l))
 |0,l,h=>by
  have:l=[]:=cO.1 h;subst this;intro w hw; cases hw
 |n+1,l,h=>by
  obtain⟨l',w,rfl⟩:∃l' w,l=l'++[w]:=⟨l.dropLast,l.getLast (by intro e; rw[e] at h; simp at h),(List.dropLast_concat_getLast _).symm⟩;have ih:=Pr g n l' (by simpa using h);rw[abb,adH,OT]
  by_cases hg:g=ś m.2 w label d
  ·rw[if_pos hg,←hg]
   cases hm:lP (k:=tI) (v:=Ã) g (lV m label d l') with
   |none =>
    rw[hm] at ih;dsimp only;refine⟨⟨w,by simp,hg.symm,by unfold YA; rw[←hg]⟩,⟨w,by simp,hg.symm,by unfold YA; rw[←hg]⟩,fun v hv e=>?_⟩;rcases List.mem_append.1 hv with hv|hv
    ·exact absurd e (ih v hv)
    ·rw[List.mem_singleton.1 hv];unfold YA;rw[←hg];exact⟨Int.le_refl _,Int.le_refl _⟩
   |some s =>
    rw[hm] at ih;dsimp only;obtain⟨⟨w1,a1,a2,a3⟩,⟨w2,b1,b2,b3⟩,c⟩:=ih
    have hw:(vD (trP m w) (g,d)).1=YA m label d w:=by unfold YA; rw[←hg]
    rw[hw];refine⟨?_,?_,fun v hv e=>?_⟩
    ·rcases Int.le_total (YA m label d w).1 s.1 with h1|h1
     ·exact⟨w,by simp,hg.symm,by unfold aa9; omega⟩
     ·exact⟨w1,by simp[a1],a2,by unfold aa9; omega⟩
    ·rcases Int.le_total (YA m label d w).2 s.2 with h1|h1
     ·exact⟨w2,by simp[b1],b2,by unfold aa9; omega⟩
     ·exact⟨w,by simp,hg.symm,by unfold aa9; omega⟩
    ·unfold aa9;rcases List.mem_append.1 hv with hv|hv
     ·have:=c v hv e; omega
     ·rw[cH.1 hv]; omega
  ·rw[if_neg hg]
   cases hm:lP (k:=tI) (v:=Ã) g (lV m label d l') with
   |none =>
    rw[hm] at ih;intro v hv;rcases cE.1 hv with hv|hv
    ·exact ih v hv
    ·rw[cH.1 hv]; exact fun e=>hg e.symm
   |some s =>
    rw[hm] at ih;obtain⟨⟨w1,a1,a2,a3⟩,⟨w2,b1,b2,b3⟩,c⟩:=ih;refine⟨⟨w1,by simp[a1],a2,a3⟩,⟨w2,by simp[b1],b2,b3⟩,fun v hv e=>?_⟩;rcases cE.1 hv with hv|hv
    ·exact c v hv e
    ·rw[cH.1 hv] at e; exact absurd e.symm hg
end
def Vd (m:Ĺ) (n:Int×Int):Ĺ:=(Ŏ m.1 n,m.2)
def ab4 (m:Ĺ) (w:Way) (n:Int×Int):trP (Vd m n) w=Ŏ (trP m w) (rZ m w n):=by
 show(_,_,_,_,_,(m.1.2.2.2.2.2++[n]).map _)=_;rw[eT];rfl
def MOk.look {m:Ĺ} {n:Int×Int} (h:MOk m) (hg:ū (Ŏ m.1 n)):MOk (Vd m n):=⟨hg,h.n4,h.mixE,h.prod⟩
def adN {m:Ĺ} {n:Int×Int} (h:MOk m) (hg:ū (Ŏ m.1 n)) {w:Way} (hw:ħ m.2 w):lJ (Vd m n) w=lJ m w:=by
 have h2:=h.look hg;have g1:=lY h hw;have g2:ū (trP (Vd m n) w):=lY h2 hw;have e:∀b,ū b→(Μ (ķ b) ((É b).length+1)=true↔∃f z,Hist b f z):=fun b hb=>Jw hb;rw[Bool.eq_iff_iff];unfold lJ;rw[e _ g1,e _ g2,ab4];exact⟨fun⟨f,z,hh⟩=>⟨f,z,Lr.1 hh⟩,fun⟨f,z,hh⟩=>⟨f,z,Lr.2 hh⟩⟩
def adx {m:Ĺ} {n:Int×Int} (h:MOk m) (hg:ū (Ŏ m.1 n)):ş (Vd m n)=ş m :=
 List.filter_congr fun w hw=>adN h hg (sE.1 hw)
def Pj {b:Ď} {n:Int×Int}:MA b n↔n∈É b:=mW.symm
def afK (b:Ď) (n:Int×Int):Int:=if 10≤b.2.2.2.2.2.length then 2 else if GH (Ŕ b) n.1 n.2≠0 then GH (Ŕ b) n.1 n.2 else if 59<(É (Ŏ b n)).length then 2 else if 300<2*(É (Ŏ b n)).length+2*b.2.2.2.2.1.length then 2 else 0
def Pc {b:Ď} (h:ū b) (n:Int×Int):ę (Ŏ b n)=afK b n:=by
 have h1:=h.nG; have h2:=h.nU; have h3:=h.nL; have h4:=h.nC; have h5:=h.nK
 have hf:l5 b.1 0 1000000=true:=by simp[l5]; exact h.film
 unfold ę afK;show(if !l5 b.1 0 1000000 then(1:Int) else if 12<b.2.1.length then 2 else if 40<b.2.2.1.length then 2 else if 12<b.2.2.2.1.length then 2 else if 40<b.2.2.2.2.1.length then 2 else if 10<(b.2.2.2.2.2++[n]).length then 2 else _)=_;rw[hf,if_neg (by simp),if_neg (by omega),if_neg (by omega),if_neg (by omega),if_neg (by omega),List.length_append,List.length_singleton]
 by_cases hk:10≤b.2.2.2.2.2.length
 ·rw[if_pos (by omega),if_pos hk]
 ·rw[if_neg (by omega),if_neg hk];have hge:mE (Ŏ b n)=0:=(B6 _).2 ⟨h.gauge,h.ids⟩;rw[hge,if_neg (by simp)]
  have hparts:(qt (Ŏ b n) (Ŕ (Ŏ b n))).find? (fun e=>e != 0)=if GH (Ŕ b) n.1 n.2≠0 then some (GH (Ŕ b) n.1 n.2) else none:=by
   have e:qt (Ŏ b n) (Ŕ (Ŏ b n))=qt b (Ŕ b)++[GH (Ŕ b) n.1 n.2]:=by
    unfold qt;show b.2.2.1.map _++(b.2.2.2.1.mapIdx _++(b.2.2.2.2.1.mapIdx _++(b.2.2.2.2.2++[n]).map _))=_;rw[List.map_append];simp only[List.append_assoc];rfl
   have hz:(qt b (Ŕ b)).find? (fun e=>e != 0)=none:=by
    rw[List.find?_eq_none];intro e he;unfold qt at he;simp only[List.mem_append,List.mem_map,List.mem_mapIdx] at he;rcases he with⟨u,hu,rfl⟩|⟨i,hi,rfl⟩|⟨i,hi,rfl⟩|⟨u,hu,rfl⟩
    ·simp[h.uses u hu]
    ·simp[h.loans i _ (cw hi)]
    ·simp[h.compares i _ (cw hi)]
    ·simp[h.looks u hu]
   rw[e,List.find?_append,hz,Option.none_or,fj]
   by_cases hu:GH (Ŕ b) n.1 n.2=0
   ·simp[hu]
   ·rw[show(GH (Ŕ b) n.1 n.2 != 0)=true from bne_iff_ne.2 hu,if_pos hu]
  rw[hparts]
  by_cases hu:GH (Ŕ b) n.1 n.2=0
  ·rw[if_neg (show ¬(GH (Ŕ b) n.1 n.2≠0) from fun h=>h hu),if_neg (show ¬(GH (Ŕ b) n.1 n.2≠0) from fun h=>h hu)];dsimp only;have hl:(Ŏ b n).2.1.length=b.2.1.length∧(Ŏ b n).2.2.2.2.1.length=b.2.2.2.2.1.length:=⟨rfl,rfl⟩;rw[hl.1,hl.2]
   split
   ·rfl
   ·by_cases hh:300<2*(É (Ŏ b n)).length+2*b.2.2.2.2.1.length
    ·rw[if_pos (by omega),if_pos hh]
    ·rw[if_neg (by omega),if_neg hh]
  ·rw[if_pos hu,if_pos hu]
def Zr {b:Ď} (hi:b.2.1.Pairwise fun a c=>a.1<c.1) {n:Int×Int} (hn:∃g,ö b n.1=some g):(É (Ŏ b n)).length=if n∈É b then(É b).length else(É b).length+1:=by
 have key:∀g∈b.2.1,∀e,e∈ã (Ŏ b n) g↔e∈ã b g∨(n.1=g.1∧n.2=e):=fun g _ e=>by
  rw[Ž,Ž];show _∨_∨(∃x∈b.2.2.2.2.2++[n],x.1=g.1∧x.2=e)↔_;simp only[cE,cH];constructor
  ·rintro(h|h|⟨x,hx|rfl,h⟩)
   ·exact .inl (.inl h)
   ·exact .inl (.inr (.inl h))
   ·exact .inl (.inr (.inr ⟨x,hx,h⟩))
   ·exact .inr h
  ·rintro((h|h|⟨x,hx,h⟩)|h)
   ·exact .inl h
   ·exact .inr (.inl h)
   ·exact .inr (.inr ⟨x,.inl hx,h⟩)
   ·exact .inr (.inr ⟨n,.inr rfl,h⟩)
 have mem:∀p:Int×Int,p∈É (Ŏ b n)↔p∈É b∨p=n:=fun p=>by
  rw[show p=(p.1,p.2) from rfl,mW,mW];constructor
  ·rintro⟨g,hg,e,hd⟩;have hg:g∈b.2.1:=hg;rcases(key g hg p.2).1 hd with h|⟨h1,h2⟩
   ·exact .inl ⟨g,hg,e,h⟩
   ·exact .inr (Prod.ext (e.symm.trans h1.symm) h2.symm)
  ·rintro(⟨g,hg,e,hd⟩|h)
   ·exact⟨g,hg,e,(key g hg p.2).2 (.inl hd)⟩
   ·obtain⟨g,hgo⟩:=hn;obtain⟨g1,g2⟩:=ig hgo;have h1:p=n:=h;subst h1;exact⟨g,g1,g2,(key g g1 p.2).2 (.inr ⟨g2.symm,rfl⟩)⟩
 have nd:=uE (b:=Ŏ b n) hi;have nd0:=uE hi
 split
 ·rename_i hin;exact Nat.le_antisymm (dO nd fun p hp=>((mem p).1 hp).elim id fun e=>e▸hin) (dO nd0 fun p hp=>(mem p).2 (.inl hp))
 ·rename_i hin;have nd1:(n::É b).Nodup:=eG.2 ⟨hin,nd0⟩;have:=Nat.le_antisymm (dO nd (l₂:=n::É b) fun p hp=>((mem p).1 hp).elim (fun h=>dh _ h) fun e=>by rw[e]; simp) (dO nd1 fun p hp=>(cF.1 hp).elim (fun e=>(mem p).2 (.inr e)) fun h=>(mem p).2 (.inl h));rw[this,cN]
section
variable {m:Ĺ} {w:Way} {n:Int×Int}
def Zj (h:MOk m) (hw:ħ m.2 w):rZ m w n∈É (trP m w)↔n∈É m.1:=by
 constructor
 ·intro hn;obtain⟨x,e,hx⟩:=GJ (y:=(rZ m w n).1) (d:=n.2) h hw hn;have:x=n.1:=h.inj hw e;subst this;exact hx
 ·intro hn;exact Wr h hw (x:=n.1) (d:=n.2) hn
def use_T (h:MOk m) (hw:ħ m.2 w) (hk:rE m.1 n.1):GH (Ŕ (trP m w)) (rZ m w n).1 n.2=GH (Ŕ m.1) n.1 n.2:=by
 show GH (Ŕ m.1) (ś m.2 w n.1 n.2) n.2=_;unfold GH
 cases hd:I0 n.2 with
 |false=>rfl
 |true =>
  simp only[dw,cQ,if_false];obtain⟨g,hg⟩:=hk
  by_cases hm:g.2.1≤n.2
  ·rw[(sO h.good.ids).2 ⟨g,hg,hm⟩,(sO h.good.ids).2 (h.whoG hw ⟨g,hg,hm⟩)]
  ·have:ś m.2 w n.1 n.2=n.1:=Ch hw fun y hy hd hx=>by
    obtain⟨g',e1,e2⟩:=(h.mix hy).known _ hx;rw[hg] at e1; cases e1;omega
   rw[this]
def look_T (h:MOk m) (hw:ħ m.2 w) (hk:rE m.1 n.1):ę (Ŏ (trP m w) (rZ m w n))=ę (Ŏ m.1 n):=by
 have hg:=lY h hw
 have e1:(trP m w).2.2.2.2.2.length=m.1.2.2.2.2.2.length:=by show(m.1.2.2.2.2.2.map _).length=_; rw[dl]
 have e2:(trP m w).2.2.2.2.1.length=m.1.2.2.2.2.1.length:=by show(m.1.2.2.2.2.1.map _).length=_; rw[dl]
 have hk':∃g,ö (trP m w) (rZ m w n).1=some g:=h.whoK hw hk;have e3:=Zr (b:=trP m w) (ab5 h) hk';have e4:=Zr (b:=m.1) h.good.ids hk
 have e5:(É (Ŏ (trP m w) (rZ m w n))).length=(É (Ŏ m.1 n)).length:=by
  rw[e3,e4,agP h hw]
  by_cases hn:n∈É m.1
  ·rw[if_pos ((Zj h hw).2 hn),if_pos hn]
  ·rw[if_neg fun hx=>hn ((Zj h hw).1 hx),if_neg hn]
 rw[Pc hg,Pc h.good,afK,afK,e1,e2,e5];have:=use_T h hw hk;rw[show GH (Ŕ (trP m w)) (rZ m w n).1 (rZ m w n).2=_ from this]
def sG (m:Ĺ) (n:Int×Int):Ĺ:=if n∈É m.1 then m else Vd m n
def Eg {b:Ď} (h:ū b) {n:Int×Int}:tX b n.1 n.2=0↔n∉É b:=by
 rw[←Pj,←za h];omega
def acd (h:MOk m) (hw:ħ m.2 w) (hk:rE m.1 n.1):rX (trP m w) (rZ m w n)=if n∈É m.1 then(trP m w,0) else if ę (Ŏ m.1 n)≠0 then(Yo,ę (Ŏ m.1 n)) else(trP (Vd m n) w,0):=by
 have hg:=lY h hw;unfold rX;rw[look_T h hw hk,ab4]
 by_cases hn:n∈É m.1
 ·rw[if_pos (fun e=>(Eg hg).1 e ((Zj h hw).2 hn)),if_pos hn]
 ·rw[if_neg (by have:=(Eg hg).2 fun hx=>hn ((Zj h hw).1 hx); simpa using this),if_neg hn]
def aca (h:MOk m) (hw:ħ m.2 w) (hk:rE m.1 n.1) (hn:n∈É m.1):rX (trP m w) (rZ m w n)=(trP m w,0):=by rw[acd h hw hk,if_pos hn]
def aff (h:MOk m) (hw:ħ m.2 w) (hk:rE m.1 n.1) (hn:n∉É m.1) (hc:ę (Ŏ m.1 n)≠0):rX (trP m w) (rZ m w n)=(Yo,ę (Ŏ m.1 n)):=by rw[acd h hw hk,if_neg hn,if_pos hc]
def YM (h:MOk m) (hw:ħ m.2 w) (hk:rE m.1 n.1) (hn:n∉É m.1) (hc:ę (Ŏ m.1 n)=0):rX (trP m w) (rZ m w n)=(trP (Vd m n) w,0):=by rw[acd h hw hk,if_neg hn,if_neg (fun e=>e hc)]
def wO (m:Ĺ) (n:Int×Int):Int:=if n∈É m.1 then 0 else ę (Ŏ m.1 n)
def ahj (h:MOk m) (hw:ħ m.2 w) (hk:rE m.1 n.1):YB m n.1 n.2 w=wO m n:=by
 unfold YB vD wO;rw[show((ś m.2 w n.1 n.2,n.2):Int×Int)=rZ m w n from rfl]
 by_cases hn:n∈É m.1
 ·rw[aca h hw hk hn,if_pos hn,if_neg (by simp)]
 ·rw[if_neg hn]
  by_cases hc:ę (Ŏ m.1 n)=0
  ·rw[YM h hw hk hn hc,if_neg (by simp),hc]
  ·rw[aff h hw hk hn hc,if_pos hc]
def ahi (h:MOk m) (hw:ħ m.2 w) (hk:rE m.1 n.1) (he:wO m n=0):YA m n.1 n.2 w=ivR (trP (sG m n) w) (rZ m w n):=by
 unfold YA vD;unfold wO at he;unfold sG;rw[show((ś m.2 w n.1 n.2,n.2):Int×Int)=rZ m w n from rfl]
 by_cases hn:n∈É m.1
 ·rw[aca h hw hk hn,if_pos hn,if_neg (by simp)]
 ·rw[if_neg hn] at he;rw[YM h hw hk hn he,if_neg hn,if_neg (by simp)]
def ahw (h:MOk m) (he:wO m n=0):MOk (sG m n):=by
 unfold wO at he;unfold sG
 by_cases hn:n∈É m.1
 ·rw[if_pos hn]; exact h
 ·rw[if_neg hn] at he ⊢;exact h.look ((Ģ _).1 he)
def aco (h:MOk m) (he:wO m n=0):ş (sG m n)=ş m:=by
 unfold wO at he;unfold sG
 by_cases hn:n∈É m.1
 ·rw[if_pos hn]
 ·rw[if_neg hn] at he ⊢;exact adx h ((Ģ _).1 he)
def afq (m:Ĺ) (n:Int×Int):(sG m n).2=m.2:=by unfold sG; split<;>rfl
def acn (h:MOk m) (he:wO m n=0) (hk:rE m.1 n.1):n∈É (sG m n).1:=by
 unfold wO at he;unfold sG
 by_cases hn:n∈É m.1
 ·rw[if_pos hn]; exact hn
 ·rw[if_neg hn] at he ⊢;exact Pj.1 (Vc n ((Ģ _).1 he))
def ad6 (h:MOk m) (label d:Int):vX m label d=if jG m.1 label d≠0 then([],jG m.1 label d) else if ş m=[] then([],5) else if wO m (label,d)≠0 then([],wO m (label,d)) else
 (m.1.2.1.filterMap fun g=>(lP (k:=tI) (v:=Ã) g.1 (lV m label d (ş m))).map fun s=>(g.1,s),0):=by
 have hc:¬(Ī m≠0):=fun e=>e ((Ĵ m).2 h);unfold vX;rw[if_neg hc]
 by_cases hk:jG m.1 label d=0
 ·have hk':¬(jG m.1 label d≠0):=fun e=>e hk;rw[if_neg hk',if_neg hk']
  by_cases hg:ş m=[]
  ·rw[if_pos hg,if_pos hg]
  ·rw[if_neg hg,if_neg hg];have hkg:=(Lv.1 hk).2;have hw:∀w∈ş m,YB m label d w=wO m (label,d):=fun w hw=>ahj (n:=(label,d)) h (zb hw).1 hkg
   by_cases he:wO m (label,d)=0
   ·have:(ş m).findSome? (fun w=>Wh (YB m label d w))=none:=List.findSome?_eq_none_iff.2 fun w hw'=>by rw[hw w hw',he]; rfl
    rw[this,if_neg (fun e=>e he)]
   ·have:(ş m).findSome? (fun w=>Wh (YB m label d w))=some (wO m (label,d)):=by
     cases hgl:ş m with
     |nil=>exact absurd hgl hg
     |cons x t =>
      rw[fS,hw x (by rw[hgl]; simp)];simp[Wh,he]
    rw[this,if_pos he]
 ·rw[if_pos hk,if_pos hk]
end
section
variable {ρ:Type}
def aaZ {α β γ:Type} (l:List α) (g:Nat→β×γ) (r:Option ρ) {f:β×γ×Int→(β×γ×Int→Option ρ)→Option ρ} {b0:β} {c0:γ} (h0:g 0=(b0,c0))
 (h:∀(i:Nat) (a:α),i<l.length→l[i]?=some a→∀kn,f ((g i).1,(g i).2,(i:Int)) kn=kn ((g (i+1)).1,(g (i+1)).2,(i:Int)+1))
 (hn:∀kn,f ((g l.length).1,(g l.length).2,(l.length:Int)) kn=r):Ë f (b0,c0,0)=r:=by
 refine pQ (F:=fun _=>r) (fun x=>∃i:Nat,i≤l.length∧x=((g i).1,(g i).2,(i:Int))) (fun x=>l.length-x.2.2.toNat) (fun x hx kn hk=>?_) ⟨0,dB _,by rw[h0]; rfl⟩;obtain⟨i,hi,rfl⟩:=hx;rcases cV i l.length with hlt|hge
 ·rw[h i _ hlt (cw hlt) kn,hk _ ⟨i+1,hlt,by simp⟩ (by simp; omega)]
 ·have:i=l.length:=by omega
  subst this;exact hn kn
end
section
variable {X:Ĺ} {w:Way} {label d:Int}
def af8 (h:MOk X) (hw:w∈ş X) (hn:(label,d)∈É X.1) {T:Ď} (hT:trP X w=T) :
 ∃k:Int,tX T (ś X.2 w label d) d=k∧1≤k∧k<((É T).length+1:Nat)∧∃up down:List Int,pV ((((É T).length:Int)+1),ķ T) 0 k=some (up,0)∧pV ((((É T).length:Int)+1),ķ T) k 0=some (down,0) ∧
  up.length=(É T).length+1∧down.length=(É T).length+1∧Oi T (up.drop 1)=(true,0)∧Oi T (down.drop 1)=(true,0)∧gv up k=(ivR T (ś X.2 w label d,d)).2∧gv down k=(ivR T (ś X.2 w label d,d)).1:=by
 obtain⟨ho,hex⟩:=zb hw
 have hR:aiq T:=by rw[←hT]; exact act h ho hex
 have hnode:(ś X.2 w label d,d)∈É T:=by rw[←hT]; exact Wr h ho hn
 have hidx:tX T (ś X.2 w label d) d≠0:=fun e=>(Eg (n:=(ś X.2 w label d,d)) hR.good).1 e hnode;have hIs:MA T (ś X.2 w label d,d):=(za hR.good).1 hidx;have hrng:0≤tX T (ś X.2 w label d) d∧tX T (ś X.2 w label d) d<((É T).length+1:Nat):=XT T (ś X.2 w label d,d);have hz:=PO T;have hd:=ZR hR hrng;have hs:((((É T).length:Int)+1),ķ T)=sysR T:=rfl;obtain⟨f1,f2,f3⟩:=Hl hR hIs true;obtain⟨g1,g2,g3⟩:=Hl hR hIs false
 have hk1:1≤tX T (ś X.2 w label d) d:=by have:=hrng.1; omega
 refine⟨_,rfl,hk1,hrng.2,_,_,by rw[hs]; exact Tk hR hz hrng hidx hd.1,by rw[hs]; exact Tk hR hrng hz (fun e=>hidx e.symm) hd.2,IA _ _,IA _ _,f1,g1,?_,?_⟩
 ·have e:gv (SJ (kE T 0 (tX T (ś X.2 w label d) d)) ((É T).length+1)) (tX T (ś X.2 w label d) d)=gv (0::rI T (ś X.2 w label d,d) true) (tX T (ś X.2 w label d) d):=by
   rw[ZB hk1];unfold rI gv;rw[if_pos rfl,List.getElem?_drop,show 1+(tX T (ś X.2 w label d) d-1).toNat=(tX T (ś X.2 w label d) d).toNat by omega]
  rw[e,f2,if_pos rfl]
 ·have e:gv (SJ (kE T (tX T (ś X.2 w label d) d) 0) ((É T).length+1)) (tX T (ś X.2 w label d) d)=gv (0::rI T (ś X.2 w label d,d) false) (tX T (ś X.2 w label d) d):=by
   rw[ZB hk1];unfold rI gv;rw[if_neg (by simp),List.getElem?_drop,show 1+(tX T (ś X.2 w label d) d-1).toNat=(tX T (ś X.2 w label d) d).toNat by omega]
  rw[e,g2,if_neg (by simp)]
def ivW (X:Ĺ) (label d:Int) (w:Way):Int×Int:=ivR (trP X w) (ś X.2 w label d,d)
def ae3 (X:Ĺ) (label d:Int) (c:Int×Int×Int) (w:Way):Bool:=decide (ś X.2 w label d=c.1)&&decide ((ivW X label d w).1=c.2.1)
def N7 (X:Ĺ) (label d:Int) (c:Int×Int×Int) (w:Way):Bool:=decide (ś X.2 w label d=c.1)&&decide ((ivW X label d w).2=c.2.2)
def ah4 (h:MOk X) (hI:In X.1) (hn:(label,d)∈É X.1) (hk:jG X.1 label d=0) {could:List (Int×Int×Int)} {i:Nat} {c:Int×Int×Int} (hc:could[i]?=some c)
 (hok:∀w∈ş X,ś X.2 w label d=c.1→c.2.1≤(ivW X label d w).1∧(ivW X label d w).2≤c.2.2) (K:Bool×Bool→Option Bool) :
 Ë (fun(v:Bool×Bool×Int) kk=>iA label d could (ş X) i X.1.1.1 X.1.1.2 X.1.2.1 X.1.2.2.1 X.1.2.2.2.1 X.1.2.2.2.2.1 X.1.2.2.2.2.2 X.2 v.1 v.2.1 v.2.2 (fun a b c=>kk (a,b,c)) (fun z=>some z) K) (false,false,(0:Int)) =
  K ((ş X).any (ae3 X label d c),(ş X).any (N7 X label d c)):=by
 have hgl:=ZD h;have hn4:=h.n4;refine aaZ (ş X) (fun k=>(((ş X).take k).any (ae3 X label d c),((ş X).take k).any (N7 X label d c))) _ rfl (fun k w hkl hw kn=>?_) (fun kn=>?_)
 ·have hwm:=cG hw;obtain⟨ho,hex⟩:=zb hwm;have hsh:=abW h ho;have hask:rU X w=0:=vV.2 ⟨h,ho⟩;have hm:((((X.1.1.1,X.1.1.2),X.1.2.1,X.1.2.2.1,X.1.2.2.2.1,X.1.2.2.2.2.1,X.1.2.2.2.2.2),X.2):Ĺ)=X:=rfl
  try dsimp only
  unfold iA
  rw[Ó hkl,È hw,hm,aeR hI (by omega) hsh,À,È hw,V5 hI (by omega) hsh,À,WhoP,GC,if_neg (by simp[hask]),if_neg (by simp[hk]),if_neg (by simp[hask]),Î (by rfl),Î (by rfl),È hc,
   take_succ hw,List.any_append,List.any_append]
  dsimp only
  have e1:List.any [w] (ae3 X label d c)=ae3 X label d c w:=by simp
  have e2:List.any [w] (N7 X label d c)=N7 X label d c w:=by simp
  rw[e1,e2]
  by_cases hwho:ś X.2 w label d=c.1
  case neg =>
   rw[Ù (by simp[ine,hwho]),Í hkl (by omega)];unfold ae3 N7;simp[hwho]
  rw[Î (by simp[ine,hwho])];obtain⟨k0,i1,i2,i3,up,down,r1,r2,r3,r4,r5,r6,r7,r8⟩:=af8 h hwm hn rfl;have hTI:In (trP X w):=agJ h ho;have hTg:ū (trP X w):=lY h ho;rw[yF hTI,À,MB hTg];dsimp only;rw[i1,if_neg (by omega),EO h ho,À];dsimp only
  rw[r1,À,r2,À,Î (by rfl),Î (by rfl),Î (by rfl),Î (by rfl),Î (decide_eq_false (by omega)),Ñ,Ñ,Î (decide_eq_false (by dsimp only; omega)),Î (decide_eq_false (by dsimp only; omega)),
   È hw,Ć (by simp[ile,ñ]; omega),MD hI (by omega) hsh,À,ER,if_neg (by simp[hask]),r5,if_pos rfl,Î (by rfl),È hw,Ć (by simp[ile,ñ]; omega),MD hI (by omega) hsh,À,ER,if_neg (by simp[hask]),r6,if_pos rfl,Î (by rfl)]
  obtain⟨q1,q2⟩:=hok w hwm hwho
  have gu:∀f:Int→Option Bool,đ up k0 f=f (ivW X label d w).2:=fun f=>by rw[ke (by omega) (by omega),r7]; rfl
  have gd:∀f:Int→Option Bool,đ down k0 f=f (ivW X label d w).1:=fun f=>by rw[ke (by omega) (by omega),r8]; rfl
  have gc:∀f:(Int×Int×Int)→Option Bool,đ could (i:Int) f=f c:=fun f=>È hc f;simp only[gu,gd,gc];rw[Î (decide_eq_false (by omega)),Î (decide_eq_false (by omega))]
  have e3:ae3 X label d c w=ieq (ivW X label d w).1 c.2.1:=by unfold ae3 ieq; simp only[hwho,decide_true,Bool.true_and]; exact(Bool.beq_eq_decide_eq _ _).symm
  have e4:N7 X label d c w=ieq (ivW X label d w).2 c.2.2:=by unfold N7 ieq; simp only[hwho,decide_true,Bool.true_and]; exact(Bool.beq_eq_decide_eq _ _).symm
  rw[e3,e4];have hck:∀f:Int→Option Bool,ck ((k:Int)+1) f=f ((k:Int)+1):=fun f=>Í hkl (by omega) f
  cases((ş X).take k).any (ae3 X label d c)<;>cases((ş X).take k).any (N7 X label d c)<;>simp[Č,hck]
 ·try dsimp only
  unfold iA;rw[ß,List.take_length]
structure EndW (X:Ĺ) (label d:Int) (c:Int×Int×Int):Prop where
 inn:∀w∈ş X,ś X.2 w label d=c.1→c.2.1≤(ivW X label d w).1∧(ivW X label d w).2≤c.2.2
 low:(ş X).any (ae3 X label d c)=true
 high:(ş X).any (N7 X label d c)=true
def adP (h:MOk X) (hI:In X.1) (hn:(label,d)∈É X.1) (hk:jG X.1 label d=0) {could:List (Int×Int×Int)} (hcl:could.length≤1000) (hok:∀c∈could,EndW X label d c) (Z:Option Bool) :
 Ë (fun(v:Int) kk=>iB label d could (ş X) X.1.1.1 X.1.1.2 X.1.2.1 X.1.2.2.1 X.1.2.2.2.1 X.1.2.2.2.2.1 X.1.2.2.2.2.2 X.2 v (fun u=>kk u) (fun z=>some z) (fun _=>Z)) 0=Z:=by
 refine ac8 could Z (fun i c hi hc kn=>?_) (fun kn=>?_)<;>(try dsimp only)<;>unfold iB
 ·have hk':=hok c (List.mem_of_getElem? hc);rw[Ó hi];refine(ah4 h hI hn hk hc hk'.inn _).trans ?_;dsimp only;rw[hk'.low,hk'.high,Î (by rfl),Î (by rfl),Í hi (by omega)]
 ·rw[ß]
end
def af9 {m:Ĺ} (hn:∀g∈m.1.2.1,I64 g.2.2.2.2.1.1) (label d:Int):vI m label d=some true:=by
 unfold vI uI;rw[acj,À,aax]
 by_cases hs:Ta m=true
 case neg=>rw[dR.2 hs]; rfl
 have h7:=ack hs hn;have hl6:=h7.n6;rw[hs,Î (by rfl),V9 h7.inn (by omega),À]
 by_cases hc0:(vX m label d).2=0
 case neg=>rw[Ù (by simp[ine,hc0])]; rfl
 rw[Î (by simp[ine,hc0])]
 have hc:Ī m=0:=by
  cases Decidable.em (Ī m=0) with
  |inl e=>exact e
  |inr e=>unfold vX at hc0; rw[if_pos e] at hc0; exact absurd hc0 e
 have h:=(Ĵ m).1 hc;have heq:=ad6 h label d
 by_cases hk:jG m.1 label d=0
 case neg=>rw[heq,if_pos hk] at hc0; exact absurd hc0 hk
 by_cases hg:ş m=[]
 case pos=>rw[heq,if_neg (by simp[hk]),if_pos hg] at hc0; exact absurd hc0 (by simp)
 by_cases hse:wO m (label,d)=0
 case neg=>rw[heq,if_neg (by simp[hk]),if_neg hg,if_pos hse] at hc0; exact absurd hc0 hse
 rw[if_neg (by simp[hk]),if_neg hg,if_neg (by simp[hse])] at heq;have hkn:=(Lv.1 hk).2;have hX:=ahw (n:=(label,d)) h hse;have hXg:=aco (n:=(label,d)) h hse;have hX2:=afq m (label,d);have hXn:=acn (n:=(label,d)) h hse hkn
 have hcl:(vX m label d).1.length≤1000:=by
  have hG:=h.good.nG;rw[heq];exact cR (List.length_filterMap_le _ _) (by omega)
 have hiv:∀w∈ş m,YA m label d w=ivW (sG m (label,d)) label d w:=fun w hw=>by
  have:=ahi (n:=(label,d)) h (zb hw).1 hkn hse;rw[this];unfold ivW rZ;rw[hX2]
 have hend:∀c∈(vX m label d).1,EndW (sG m (label,d)) label d c:=by
  intro c hcm;rw[heq] at hcm;obtain⟨g,h1,h2⟩:=List.mem_filterMap.1 hcm;have hall:ahf m label d (ş m) g.1 (lP (k:=tI) (v:=Ã) g.1 (lV m label d (ş m))):=Pr _ _ _ rfl
  cases hm:lP (k:=tI) (v:=Ã) g.1 (lV m label d (ş m)) with
  |none=>rw[hm] at h2; cases h2
  |some s =>
   rw[hm] at h2 hall;cases h2;obtain⟨⟨w1,a1,a2,a3⟩,⟨w2,b1,b2,b3⟩,h3⟩:=hall;refine⟨fun w hw hwho=>?_,?_,?_⟩
   ·rw[hXg] at hw;rw[hX2] at hwho;rw[←hiv w hw];exact h3 w hw hwho
   ·rw[hXg,List.any_eq_true];refine⟨w1,a1,?_⟩;unfold ae3;rw[hX2,←hiv w1 a1];simp[a2,a3]
   ·rw[hXg,List.any_eq_true];refine⟨w2,b1,?_⟩;unfold N7;rw[hX2,←hiv w2 b1];simp[b2,b3]
 have hXc:Ī (sG m (label,d))=0:=(Ĵ _).2 hX;rw[yF h7.inn,À,MB h.good]
 by_cases hnode:(label,d)∈É m.1
 ·have hid:tX m.1 label d≠0:=fun e=>(Eg (n:=(label,d)) h.good).1 e hnode
  have hXm:sG m (label,d)=m:=by unfold sG; rw[if_pos hnode]
  rw[hXm] at hend hXn;dsimp only;rw[if_neg hid,Î (by rfl),ae1 h7.inn (by omega),À,if_neg (by simp[hc]),Î (by rfl)];dsimp only;rw[Ñ,Î (beq_eq_false_iff_ne.2 (by have:=List.length_pos_iff.2 hg; omega))];exact adP h h7.inn hXn hk hcl hend _
 ·have hid:tX m.1 label d=0:=(Eg (n:=(label,d)) h.good).2 hnode
  have hXm:sG m (label,d)=(Ŏ m.1 (label,d),m.2):=by unfold sG; rw[if_neg hnode]; rfl
  have hlk:ę (Ŏ m.1 (label,d))=0:=by unfold wO at hse; rw[if_neg hnode] at hse; exact hse
  dsimp only;rw[if_pos hid,Ù (by rfl),aeV h7.inn,À,agH,if_neg (by simp[(Ģ _).2 h.good]),if_neg (by simp[hlk]),Î (by rfl)];dsimp only;rw[←hXm]
  have hIX:In (sG m (label,d)).1:=by rw[hXm]; exact⟨Vb h.good _,h7.inn.num⟩
  have hkX:jG (sG m (label,d)).1 label d=0:=by rw[hXm]; exact hk
  rw[ae1 hIX (by rw[hX2]; omega),À,if_neg (by simp[hXc]),Î (by rfl)];dsimp only;rw[Ñ,hXg,Î (beq_eq_false_iff_ne.2 (by have:=List.length_pos_iff.2 hg; omega)),←hXg];have:=adP hX hIX hXn hkX hcl hend (Ä (some true) fun r47=>some r47);rw[hX2] at this
  have e:(sG m (label,d)).1=Ŏ m.1 (label,d):=by rw[hXm]
  rw[e] at this;exact this
end Go.Proofs.ZzM
end
