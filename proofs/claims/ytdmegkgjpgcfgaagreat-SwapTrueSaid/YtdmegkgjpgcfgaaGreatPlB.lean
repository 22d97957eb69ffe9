/- lemmas -/
import Derived.Test.YtdmegkgjpgcfgaaGreatPlA
import Derived.Test.YtdmegkgjpgcfgaaGreatMdTA
set_option linter.all false
set_option linter.unusedSectionVars false
set_option linter.unusedVariables false
set_option linter.unusedSimpArgs false
noncomputable section
namespace Go.Proofs.ZzM
open Go Go.Am
def XA {b:ë} {x:List Int}:Js b x=(true,0)↔Ł b∧Ŭ b x=true∧Pf b x=true:=by
 unfold Js;constructor
 ·intro h
  split at h
  ·cases h
  ·rename_i hc
   have hc0:ñ b=0:=by simpa using hc
   split at h
   ·rename_i hl;simp only[Prod.mk.injEq,and_true] at h;exact⟨(ö b).1 hc0,hl,h⟩
   ·cases h
 ·rintro⟨h1,h2,h3⟩;rw[if_neg (by simp[(ö b).2 h1]),if_pos h2,h3]
def If {b:ë} {x:List Int}:Ŭ b x=true↔x.length=(Ê b).length∧∀n∈x,-4503599627370496≤n∧n≤4503599627370496:=by
 simp[Ŭ,inP]
def MY {L:List Lk} {x:List Int}:Pg L x=true↔Pot L (gv x):=by
 simp only[Pg,di,decide_eq_true_eq,Pot];exact⟨fun h u v m hl=>h (u,v,m) hl,fun h l hl=>h l.1 l.2.1 l.2.2 hl⟩
def Tr (a:Int) (x:List Int) {v:Int} (hv:0≤v):gv (a::x) v=if v=0 then a else gv x (v-1):=by
 unfold gv
 by_cases h:v=0
 ·subst h; rfl
 ·obtain⟨n,rfl⟩:=fJ hv
  cases n with
  |zero=>simp at h
  |succ n =>
   have e:(((n+1:Nat):Int)-1).toNat=n:=by omega
   rw[if_neg h,e];simp
section
variable {b:ë}
def ad7:off b b.2.1.length=(Ê b).length:=by unfold off Ê; rw[List.take_length]
def aaA:∀n,n≤b.2.1.length→∀j,j<off b n→∃(i:Nat) (g:ò) (k:Nat),b.2.1[i]?=some g∧k<(ß b g).length∧j=off b i+k:=by
 intro n
 induction n with
 |zero=>intro _ j hj; simp[off] at hj
 |succ n ih =>
  intro hn j hj;have hg:b.2.1[n]?=some b.2.1[n]:=cF (by omega);rw[ag0 hg] at hj
  by_cases h:j<off b n
  ·exact ih (by omega) j h
  ·exact⟨n,_,j-off b n,hg,by omega,by omega⟩
def PQ {v:Int} (h0:1≤v) (h1:v<((Ê b).length+1:Nat)):∃(i:Nat) (g:ò) (k:Nat),b.2.1[i]?=some g∧k<(ß b g).length∧v=(off b i:Int)+k+1:=by
 obtain⟨i,g,k,h2,h3,h4⟩:=aaA (b:=b) b.2.1.length (cG _) (v-1).toNat (by rw[ad7]; omega);exact⟨i,g,k,h2,h3,by omega⟩
def GL (b:ë) (L:List Lk):Prop:=∀(i:Nat) (g:ò),b.2.1[i]?=some g→∀l∈ň b g,l∈L
def aaT:GL b (Ζ b):=fun i g hg l hl=>iT.2 (.inl ⟨i,g,hg,hl⟩)
def aiN {L:List Lk} (h:Ł b) (hL:GL b L) {v:Int} (h0:0≤v) (h1:v<((Ê b).length+1:Nat)):∃vs d,Wl L (fun u=>u=0) vs v d∧d≤4503599627370496:=by
 by_cases hv:v=0
 ·exact⟨[],0,.nil hv,by omega⟩
 obtain⟨i,g,k,hg,hk,rfl⟩:=PQ (by omega) h1;have hr:=h.gaugeR (cO hg);have r1:=hr.2.2.2.2.2.1;have r2:=hr.2.2.2.2.2.2.1
 have key:∀k:Nat,k<(ß b g).length→∃vs,Wl L (fun u=>u=0) vs ((off b i:Int)+k+1) (g.2.2.1+g.2.2.2.1.2):=by
  intro k
  induction k with
  |zero =>
   intro _;have hw:Wl L (fun u=>u=0) [0] ((off b i:Int)+1) (0+(g.2.2.1+g.2.2.2.1.2)):=Wl.step (.nil rfl) (hL i g hg _ ((ă h hg).2 (.inl rfl)));rw[Int.zero_add] at hw;exact⟨[0],by simpa using hw⟩
  |succ k ih =>
   intro hk;obtain⟨vs,hw⟩:=ih (by omega);have hw':=Wl.step hw (hL i g hg _ ((ă h hg).2 (.inr (.inr ⟨k,_,_,cF (show k<_ by omega),cF hk,.inl rfl⟩))));rw[gJ] at hw'
   have e:(off b i:Int)+((k+1:Nat):Int)+1=(off b i:Int)+k+2:=by push_cast; omega
   exact⟨_,by rw[e]; exact hw'⟩
 obtain⟨vs,hw⟩:=key k hk;exact⟨vs,_,hw,by omega⟩
def adr {L:List Lk} (h:Ł b) (hL:GL b L) {v:Int} (h0:0≤v) (h1:v<((Ê b).length+1:Nat)):∃vs d,Wl L (fun u=>u=v) vs 0 d∧d≤4503599627370496:=by
 by_cases hv:v=0
 ·exact⟨[],0,.nil hv.symm,by omega⟩
 obtain⟨i,g,k,hg,hk,rfl⟩:=PQ (by omega) h1;have hgm:=cO hg;have hr:=h.gaugeR hgm;have r1:=hr.2.2.2.2.2.1;have r2:=hr.2.2.2.2.2.2.1;have hd:=TG h hgm
 have key:∀m:Nat,m≤k→∃vs d,Wl L (fun u=>u=(off b i:Int)+k+1) vs ((off b i:Int)+(k-m:Nat)+1) d∧d≤m*(12*(20001*1048576)+40*1048576):=by
  intro m
  induction m with
  |zero=>intro _; exact⟨[],0,.nil (by simp),by simp⟩
  |succ m ih =>
   intro hm;obtain⟨vs,d,hw,hd⟩:=ih (by omega)
   have e1:((k-m:Nat):Int)=((k-(m+1):Nat):Int)+1:=by omega
   have hl:(((off b i:Int)+(k-(m+1):Nat)+2,(off b i:Int)+(k-(m+1):Nat)+1,kL b g ((ß b g)[k-(m+1)]'(by omega)) ((ß b g)[k-(m+1)+1]'(by omega))):Lk)∈L :=
    hL i g hg _ ((ă h hg).2 (.inr (.inr ⟨k-(m+1),_,_,cF (by omega),cF (by omega),.inr rfl⟩)))
   have hb:=wm h hgm (f:=(ß b g)[k-(m+1)]'(by omega)) (t:=(ß b g)[k-(m+1)+1]'(by omega)) (h.day hgm (fe _)).2.1
   have e2:(off b i:Int)+(k-m:Nat)+1=(off b i:Int)+(k-(m+1):Nat)+2:=by omega
   rw[e2] at hw;exact⟨_,_,.step hw hl,by push_cast; omega⟩
 obtain⟨vs,d,hw,hdb⟩:=key k (cG _)
 have e:(off b i:Int)+(k-k:Nat)+1=(off b i:Int)+1:=by omega
 rw[e] at hw;have hw':=Wl.step hw (hL i g hg _ ((ă h hg).2 (.inr (.inl rfl))));exact⟨_,_,hw',by omega⟩
end
structure ZK (L:List Lk) (N:Nat):Prop where
 to:∀v:Int,0≤v→v<N→∃vs d,Wl L (fun u=>u=0) vs v d∧d≤4503599627370496
 from':∀v:Int,0≤v→v<N→∃vs d,Wl L (fun u=>u=v) vs 0 d∧d≤4503599627370496
def Ł.tied {b:ë} (h:Ł b):ZK (Ζ b) ((Ê b).length+1):=⟨fun v h0 h1=>aiN h aaT h0 h1,fun v h0 h1=>adr h aaT h0 h1⟩
section
variable {L:List Lk} {N:Nat}
def aid {L:List Lk} {s:Int} {vs:List Int} {v d:Int}:Wl L (fun v=>agq s v=true) vs v d↔Wl L (fun u=>u=s) vs v d :=
 ⟨fun h=>h.mono fun u hu=>by simpa[agq] using hu,fun h=>h.mono fun u hu=>by simpa[agq] using hu⟩
def Nw (s:Int):(zk L N s).length=N:=by unfold zk; rw[ť,đ]
end
def HL (b:ë) (id day:Int):Int:=match ø b id with|some g=>if day<g.2.1 then 4 else 0|none=>5
def XU {b:ë} (hi:b.2.1.Pairwise fun a b=>a.1<b.1) (id day:Int):HL b id day=nH (ő b) id day:=by
 unfold HL nH;rw[zx hi]
 cases ø b id<;>rfl
def XH (e:Int):Option Int:=if e=0 then none else some e
def ajW (b:ë) (g d:Int):Bool×Int:=if Nz b g [d]≠0 then(false,Nz b g [d]) else((mb b g d).isSome,0)
def ajV {b:ë} (h:In b) (g d:Int):zU b g d=some (ajW b g d):=by
 have hu:=h.size.loans;unfold zU Te ajW;rw[af5 h g (by simp),À]
 by_cases ha:Nz b g [d]=0
 ·rw[Í (by simp[ine,ha]),af2 (by omega),À,if_neg (by simpa using ha)]
  cases mb b g d<;>rfl
 ·rw[Ø (by simp[ine,ha]),if_pos ha]
section
variable {ρ:Type}
def Qd {α σ:Type} (l:List α) (g:Nat→σ) (r:Option ρ) {f:σ×Int→(σ×Int→Option ρ)→Option ρ} {s0:σ} (P:Nat→Prop) (h0:g 0=s0) (hP:P 0)
 (h:∀(i:Nat) (a:α),i<l.length→l[i]?=some a→P i→∀kn,f (g i,i) kn=r∨(P (i+1)∧f (g i,i) kn=kn (g (i+1),(i:Int)+1)))
 (hn:P l.length→∀kn,f (g l.length,l.length) kn=r):Ë f (s0,0)=r:=by
 subst h0;refine uG (F:=fun _=>r) (fun x=>∃i:Nat,i≤l.length∧x=(g i,(i:Int))∧P i) (fun x=>l.length-x.2.toNat) (fun x hx kn hk=>?_) ⟨0,dQ _,rfl,hP⟩;obtain⟨i,hi,rfl,hp⟩:=hx;rcases dg i l.length with hlt|hge
 ·rcases h i _ hlt (cF hlt) hp kn with h1|⟨h1,h2⟩
  ·exact h1
  ·rw[h2,hk _ ⟨i+1,hlt,by simp,h1⟩ (by simp; omega)]
 ·have:i=l.length:=by omega
  subst this;exact hn hp kn
def aaG {l:List Int} {f:Int→(Int→Option ρ)→Option ρ} {K k1:Option ρ} (h:∀(i:Nat) (a b:Int),l[i]?=some a→l[i+1]?=some b→∀kn,f ((i:Int)+1) kn=if b≤a then K else kn ((i:Int)+1+1))
 (hn:∀n:Nat,l.length≤n→∀kn,f n kn=k1):Ë f 1=if l.Pairwise (·<·) then k1 else K:=by
 have hb:=JU (fun x:Int=>x) l;refine ĝ (fun x=>∃i:Nat,x=(i:Int)+1∧∀j a,j≤i→l[j]?=some a→uZ (fun x=>x) l j a=false) (fun x=>l.length-x.toNat) ?_ ⟨0,rfl,fun j a hj _=>?_⟩
 ·rintro x ⟨i,rfl,hi⟩;rcases dg (i+1) l.length with hlt|hge
  ·have ha:l[i]?=some l[i]:=cF (by omega);have hc:l[i+1]?=some l[i+1]:=cF hlt
   by_cases hle:l[i+1]≤l[i]
   ·refine .inl fun kn=>?_;rw[h i _ _ ha hc,if_pos hle,if_neg];intro hp;have:=hb.2 hp (i+1) _ hc;simp[uZ,ha,hle] at this
   ·refine .inr ⟨(i:Int)+1+1,⟨i+1,by simp,fun j a hj hja=>?_⟩,by omega,fun kn=>by rw[h i _ _ ha hc,if_neg hle]⟩;rcases dg i j with h1|h1
    ·have:j=i+1:=by omega
     subst this;rw[hc] at hja; cases hja;simp[uZ,ha]; omega
    ·exact hi j a h1 hja
  ·refine .inl fun kn=>?_;have:=hn (i+1) hge kn;simp only[Int.natCast_add,Int.cast_ofNat_Int] at this;rw[this,if_pos];refine hb.1 fun j a hj=>hi j a ?_ hj;have:=(cI.1 hj).1;omega
 ·have:j=0:=by omega
  subst this; simp[uZ]
end
def mixE (b:ë) (l:List Mx) (i:Nat) (x:Mx):Int :=
 if !(inP x.1 0 19999&&inP x.2.length 2 5) then 1 else
 if ¬x.2.Pairwise (·<·) then 1 else
 if x.2.any (fun g=>(ø b g).isNone) then 5 else
 if x.2.any (fun g=>HL b g x.1 != 0) then 4 else
 if uZ (fun y=>y.1) l i x then 6 else
 if x.2.any (fun g=>(mb b g x.1).isSome||(mb b g (x.1+1)).isSome) then 9 else 0
def Zl:Nat→Nat
 |0=>1
 |n+1=>Zl n*(n+1)
def Ah:List Mx→Nat
 |[]=>1
 |x::r=>Zl x.2.length*Ah r
def PF:∀{l:List Mx} {i:Nat} {x:Mx},l[i]?=some x→Ah (l.take (i+1))=Ah (l.take i)*Zl x.2.length
 |[],_,_,h=>by simp at h
 |y::l,0,x,h=>by simp at h; subst h; simp[Ah]
 |y::l,i+1,x,h=>by
  simp only[fi] at h;simp only[gH,Ah,PF h,Nat.mul_assoc]
def ae5:∀{n:Nat},n≤5→Zl n≤120
 |0,_|1,_|2,_|3,_|4,_|5,_=>by decide
 |n+6,h=>by omega
def aam:∀{l:List Mx} {n:Nat},l.length≤n→(∀x∈l,x.2.length≤5)→Ah l≤120 ^ n
 |[],n,_,_=>Nat.one_le_pow _ _ (by decide)
 |x::l,0,h,_=>by simp at h
 |x::l,n+1,h,hl=>by
  have h1:=aam (l:=l) (n:=n) (by simpa using h) fun y hy=>hl y (du _ hy);have h2:=ae5 (hl x (by simp));rw[Ah,Nat.pow_succ,Nat.mul_comm];exact fZ h1 h2
def PU (b:ë) (l:List Mx):Option Int:=Ŏ (fun i x=>XH (mixE b l i x)) 0 l
def ļ (m:ŕ):Int :=
 if ñ m.1≠0 then ñ m.1 else if 4<m.2.length then 2 else match PU m.1 m.2 with
 |some e=>e
 |none=>if 150<Ah m.2 then 2 else 0
def KE (l:List ò):List (Int×Int):=l.foldl (fun m g=>Kx (k:=tI) (v:=tI) g.1 g.2.1 m) []
def PW (x y n:Int):∀m:List (Int×Int),l5 (k:=tI) (v:=tI) x (Kx (k:=tI) (v:=tI) y n m)=if x=y then some n else l5 (k:=tI) (v:=tI) x m
 |[]=>by
  unfold Kx l5 ž l5
  by_cases h:x=y<;>simp[h]
 |e::m=>by
  unfold Kx
  by_cases h:y=e.1
  ·have:ž tI y e.1=true:=by simp[ž,h]
   rw[this];simp only;unfold l5
   by_cases hx:x=y
   ·subst hx; simp[ž]
   ·have:ž tI x y=false:=by simp[ž,hx]
    have h2:ž tI x e.1=false:=by simp[ž,←h,hx]
    rw[this,if_neg hx];simp only[h2]
  ·have:ž tI y e.1=false:=by simp[ž,h]
   rw[this];simp only;unfold l5
   by_cases hx:x=e.1
   ·subst hx;rw[if_neg (fun e=>h e.symm)];simp[ž]
   ·have h2:ž tI x e.1=false:=by simp[ž,hx]
    rw[h2];exact PW x y n m
def ab7 (x:Int) (l:List ò):l5 (k:=tI) (v:=tI) x (KE l)=(l.reverse.find? fun g=>g.1==x).map fun g=>g.2.1:=by
 have key:∀r:List ò,l5 (k:=tI) (v:=tI) x (KE r.reverse)=(r.find? fun g=>g.1==x).map fun g=>g.2.1:=by
  intro r
  induction r with
  |nil=>rfl
  |cons g r ih =>
   rw[List.reverse_cons,KE,List.foldl_append];simp only[gg,List.foldl_nil];rw[PW,fF]
   by_cases h:x=g.1
   ·subst h; simp
   ·have:(g.1==x)=false:=by simp; exact fun e=>h e.symm
    rw[if_neg h,this];exact ih
 have:=key l.reverse
 rwa [List.reverse_reverse] at this
def aeh {b:ë} (h:b.2.1.Pairwise fun a b=>a.1<b.1) (x:Int):l5 (k:=tI) (v:=tI) x (KE b.2.1)=(ø b x).map fun g=>g.2.1:=by
 rw[ab7,Ik h]; rfl
def WK {ρ:Type} {b:ë} (h:b.2.1.Pairwise fun a b=>a.1<b.1) (x:Int) (f:Int→Option ρ) (g:Option ρ):NK (k:=tI) (v:=tI) x (KE b.2.1) f g=match ø b x with|some y=>f y.2.1|none=>g:=by
 unfold NK;rw[aeh h]
 cases ø b x<;>rfl
section
variable {ρ:Type} {b:ë}
def mix_L0 {l:List Int} (hl:l.length≤1000) (k0:Int→Option ρ) (k1:Unit→Option ρ):Ë (fun(v:Int) kk=>nM l v (fun u=>kk u) k0 k1) 1=if l.Pairwise (·<·) then k1 () else k0 1:=by
 refine aaG (fun i a c ha hc kn=>?_) (fun n hn kn=>?_)
 ·have hi:=(List.getElem?_eq_some_iff.1 hc).1;unfold nM
  have e:((i:Int)+1)=((i+1:Nat):Int):=by omega
  rw[e,Ð hi,È hc,Ô (by omega) (by omega),←e,Int.add_sub_cancel,È ha,Ď,Ô (by omega) (by omega)];simp
 ·unfold nM;rw[Í (by simp[ilt,Ò]; omega)]
def mix_L1 (hn:b.2.1.length≤1000) (k0:List (Int×Int)→Option ρ):Ë (fun(v:Int×List (Int×Int)) kk=>nJ b.2.1 (Û b.2.1) v.1 v.2 (fun u v=>kk (u,v)) k0) ((0:Int),[])=k0 (KE b.2.1):=by
 refine ĩ b.2.1 (fun i=>KE (b.2.1.take i)) _ rfl (fun i g hi hg kn=>?_) (fun kn=>?_)
 ·try dsimp only
  unfold nJ;rw[Ð hi,È hg,Ì hi (by omega)];congr 2;rw[take_succ hg,KE,KE,List.foldl_append];rfl
 ·try dsimp only
  unfold nJ;rw[Þ,List.take_length]
def mix_L2 (hi:b.2.1.Pairwise fun a b=>a.1<b.1) {l:List Int} (hl:l.length≤1000) (X Y Z:Option ρ):Ë (fun(v:Int) kk=>nI l (Û l) (KE b.2.1) v (fun u=>kk u) (fun z=>ifb (ige z (0:Int)) X Y) (fun _=>Z)) 0=if l.any (fun g=>(ø b g).isNone) then X else Z:=by
 refine Ĺ l _ (fun z=>ifb (ige z (0:Int)) X Y) X Z (fun j=>Ø (by simp[ige]) _ _) (fun i a hia ha kn=>?_) (fun kn=>?_)
 ·unfold nI;rw[Ð hia,È ha,WK hi,Ì hia (by omega)]
  cases ø b a<;>rfl
 ·unfold nI;rw[Þ]
def mix_L3 (hi:b.2.1.Pairwise fun a b=>a.1<b.1) {l:List Int} (hl:l.length≤1000) (hk:∀x∈l,∃g,ø b x=some g) (d:Int) (X Y Z:Option ρ):Ë (fun(v:Int) kk=>kQ l (Û l) d (KE b.2.1) v (fun u=>kk u) (fun z=>ifb (ige z (0:Int)) X Y) (fun _=>Z)) 0=if l.any (fun g=>HL b g d != 0) then X else Z:=by
 refine Ĺ l _ (fun z=>ifb (ige z (0:Int)) X Y) X Z (fun j=>Ø (by simp[ige]) _ _) (fun i a hia ha kn=>?_) (fun kn=>?_)
 ·unfold kQ;rw[Ð hia,È ha,WK hi,Ì hia (by omega)];obtain⟨g,hg⟩:=hk a (List.mem_of_getElem? ha);unfold HL;rw[hg];dsimp only;rw[Ď]
  by_cases h:d<g.2.1<;>simp[ilt,h]
 ·unfold kQ;rw[Þ]
def mix_L4 (h:Ł b) {l:List Int} (hl:l.length≤1000) (hk:∀x∈l,∃g,ø b x=some g) {d:Int} (hd:0≤d∧d<20000) (X Y Z:Option ρ):Ë (fun(v:Int) kk=>Ō l (Û l) b.1.1 b.1.2 b.2.1 b.2.2.1 b.2.2.2.1 b.2.2.2.2.1 b.2.2.2.2.2 d v (fun u=>kk u) (fun z=>ifb (ige z (0:Int)) X Y) (fun _=>Z)) 0=if l.any (fun g=>(mb b g d).isSome||(mb b g (d+1)).isSome) then X else Z:=by
 refine Ĺ l _ (fun z=>ifb (ige z (0:Int)) X Y) X Z (fun j=>Ø (by simp[ige]) _ _) (fun i a hia ha kn=>?_) (fun kn=>?_)
 ·unfold Ō;obtain⟨g,hg⟩:=hk a (List.mem_of_getElem? ha)
  have hw:∀e,0≤e→e≤20000→zU ((b.1.1,b.1.2),b.2.1,b.2.2.1,b.2.2.2.1,b.2.2.2.2.1,b.2.2.2.2.2) a e=some ((mb b a e).isSome,0):=fun e h0 h1=>by
   rw[show(((b.1.1,b.1.2),b.2.1,b.2.2.1,b.2.2.2.1,b.2.2.2.2.1,b.2.2.2.2.2):ë)=b from rfl,ajV ⟨h.size,fun g hg=>by have:=(h.gaugeR hg).2.1; unfold I64; omega⟩]
   have:Nz b a [e]=0:=by
    unfold Nz;rw[if_neg (by simp[(ö b).2 h]),if_neg (by simp[JT,inP,h0,h1]),zx h.ids,hg]; rfl
   unfold ajW;rw[if_neg (by simp[this])]
  rw[Ð hia,È ha,hw d hd.1 (by omega),À,Ô (by omega) (by omega),hw (d+1) (by omega) (by omega),À,Ì hia (by omega)];dsimp only
  cases(mb b a d).isSome<;>cases(mb b a (d+1)).isSome<;>rfl
 ·unfold Ō;rw[Þ]
end
def ahf {b:ë} (h:Ł b) {l:List Mx} {i:Nat} {x:Mx} (hx:l[i]?=some x) (hn:i≤1000):Fc b l i=some (mixE b l i x):=by
 unfold Fc K9 mixE;rw[È hx]
 by_cases h1:inP x.1 0 19999=true∧inP (x.2.length:Int) 2 5=true
 ·obtain⟨h1,h2⟩:=h1;rw[if_neg (by simp[h1,h2])];simp only[inP,cH,decide_eq_true_eq] at h1 h2
  have hl:x.2.length≤1000:=by omega
  rw[Í (by simp[ilt]; omega),Í (by simp[ige]; omega),Í (by simp[ilt,Ò]; omega),Í (by simp[igt,Ò]; omega),mix_L0 hl]
  by_cases h3:x.2.Pairwise (·<·)
  ·rw[if_pos h3,if_neg (by simpa using h3)]
   try dsimp only
   rw[mix_L1 (by have:=h.nG; omega),mix_L2 h.ids hl]
   by_cases h4:(x.2.any fun g=>(ø b g).isNone)=true
   ·rw[if_pos h4,if_pos h4]
   ·have hk:∀y∈x.2,∃g,ø b y=some g:=fun y hy=>by
     simp only[dj,not_exists,not_and,Option.isNone_iff_eq_none] at h4;exact Option.ne_none_iff_exists'.1 (h4 y hy)
    rw[if_neg h4,if_neg h4,mix_L3 h.ids hl hk]
    by_cases h5:(x.2.any fun g=>HL b g x.1 != 0)=true
    ·rw[if_pos h5,if_pos h5]
    ·rw[if_neg h5,if_neg h5,mix_L4 h hl hk (by omega)]
     cases i with
     |zero =>
      rw[Í (by simp[igt]),if_neg (show ¬uZ (fun y:Mx=>y.1) l 0 x=true by simp[uZ])]
      split<;>rfl
     |succ i =>
      obtain⟨hi,_⟩:=cI.1 hx;have hy:l[i]?=some l[i]:=cF (by omega)
      have e:((i+1:Nat):Int)-1=i:=by omega
      rw[Ø (by simp[igt]),Ô (by omega) (by omega),e,È hy,Ď];unfold uZ;simp only[Nat.add_sub_cancel,hy,Option.any_some,Nat.succ_pos,decide_true,Bool.true_and,ile,decide_eq_true_eq]
      split
      ·rfl
      ·split<;>rfl
  ·rw[if_neg h3,if_pos h3]
 ·rw[if_pos (by simp only[ee]; cases h2:inP x.1 0 19999<;>cases h3:inP (x.2.length:Int) 2 5<;>simp_all)]
  simp only[inP,cH,decide_eq_true_eq,not_and,Int.not_le] at h1;simp only[Ď,ilt,ige,igt,Ò,decide_eq_true_eq]
  split
  ·rfl
  split
  ·rfl
  split
  ·rfl
  rw[if_pos (by have:=h1 (by omega); omega)]
def aaE {b:ë} {l:List Mx} {i:Nat} {x:Mx} (h:mixE b l i x=0):x.2.length≤5:=by
 unfold mixE at h
 split at h
 ·cases h
 ·rename_i h1;simp[inP] at h1;omega
def ahs {n v:Nat} (hn:n≤5) (hv:v≤1000000000) {ρ:Type} (k0:Int→Option ρ):Ë (fun(u:Int×Int) kk=>nN (ab4 n) u.1 u.2 (fun a b=>kk (a,b)) k0) ((v:Int),(0:Int))=k0 ((v*Zl n:Nat):Int):=by
 refine Qd (List.range n) (fun i=>((v*Zl i:Nat):Int)) _ (fun _=>True) (by simp[Zl]) trivial (fun i a hi ha _ kn=>.inr ⟨trivial,?_⟩) (fun _ kn=>?_)
 ·rw[fV] at hi
  try dsimp only
  unfold nN;have hf:=ae5 (n:=i) (by omega);have hb:v*Zl i≤1000000000*120:=Nat.mul_le_mul hv hf;have h2:v*Zl i*(i+1)≤1000000000*120*6:=Nat.mul_le_mul hb (by omega)
  have e:((v*Zl i:Nat):Int)*((i:Int)+1)=((v*Zl i*(i+1):Nat):Int):=by simp
  rw[ail hi,Ô (by omega) (by omega),e,Ô (by omega) (by omega),Ô (by omega) (by omega),Zl,Nat.mul_assoc]
 ·rw[fV]
  try dsimp only
  unfold nN;rw[Þ]
def aeg {b:ë} {l:List Mx} {i:Nat} {x:Mx} (hx:l[i]?=some x) (hp:∀j y,j<i→l[j]?=some y→mixE b l j y=0) (he:mixE b l i x≠0):PU b l=some (mixE b l i x):=by
 have key:∀(m:List Mx) (k:Nat),l.drop k=m→k≤i→Ŏ (fun i x=>XH (mixE b l i x)) k m=some (mixE b l i x):=by
  intro m
  induction m with
  |nil =>
   intro k hk hki;have:=List.drop_eq_nil_iff.1 hk;have:=(cI.1 hx).1;omega
  |cons y m ih =>
   intro k hk hki
   have hy:l[k]?=some y:=by
    have:(l.drop k)[0]?=some y:=by rw[hk]; rfl
    simpa using this
   rw[Ŏ];rcases dg k i with hlt|hge
   ·rw[hp k y hlt hy];simp only[XH,if_true];refine ih (k+1) ?_ hlt;rw[←List.tail_drop,hk]; rfl
   ·have:k=i:=by omega
    subst this;rw[hx] at hy; cases hy;simp[XH,he]
 exact key l 0 rfl (dQ _)
def Ky {b:ë} {l:List Mx} (hp:∀j y,l[j]?=some y→mixE b l j y=0):PU b l=none:=by
 rw[PU,ju];intro j y hy;rw[dw,hp j y hy]; rfl
def nw {m:ŕ} (hs:In m.1) (hn:m.2.length≤1000):ir m=some (ļ m):=by
 unfold ir Lt ļ;rw[kE hs.size hs.num,À]
 by_cases hc:ñ m.1=0
 ·have hg:=(ö _).1 hc;rw[Í (by simp[ine,hc]),if_neg (by simp[hc])]
  by_cases h4:4<m.2.length
  ·rw[Ø (by simp[igt,Ò]; omega),if_pos h4]
  ·rw[Í (by simp[igt,Ò]; omega),if_neg h4];refine Qd m.2 (fun i=>((Ah (m.2.take i):Nat):Int)) _ (fun i=>∀j y,j<i→m.2[j]?=some y→mixE m.1 m.2 j y=0) (by simp[Ah]) (fun j y h _=>by omega) (fun i x hi hx hp kn=>?_) (fun hp kn=>?_)
   ·try dsimp only
    unfold rU;rw[Ð hi,È hx,show(((m.1.1.1,m.1.1.2),m.1.2.1,m.1.2.2.1,m.1.2.2.2.1,m.1.2.2.2.2.1,m.1.2.2.2.2.2):ë)=m.1 from rfl,ahf hg hx (by omega),À]
    by_cases he:mixE m.1 m.2 i x=0
    ·rw[Í (by simp[ine,he])]
     have h5:∀y∈m.2.take i,y.2.length≤5:=fun y hy=>by
      obtain⟨j,hj,rfl⟩:=cS.1 hy;rw[cZ] at hj;rw[eX];exact aaE (hp j _ (by omega) (cF (by omega)))
     have hb:=aam (l:=m.2.take i) (n:=4) (by rw[cZ]; omega) h5
     have hb2:(120:Nat) ^ 4=207360000:=by decide
     refine .inr ⟨fun j y hj hy=>?_,?_⟩
     ·rcases dg j i with h|h
      ·exact hp j y h hy
      ·have:j=i:=by omega
       subst this;rw[hx] at hy; cases hy;exact he
     ·rw[ahs (aaE he) (by omega),Ì hi (by omega),PF hx]
    ·refine .inl ?_;rw[Ø (by simp[ine,he]),aeg hx hp he]
   ·try dsimp only
    unfold rU;rw[Þ,Ky fun j y hy=>hp j y (List.getElem?_eq_some_iff.1 hy).1 hy,List.take_length];dsimp only;rw[Ď];simp only[igt,decide_eq_true_eq]
    by_cases h:150<Ah m.2
    ·rw[if_pos (by omega),if_pos h]
    ·rw[if_neg (by omega),if_neg h]
 ·rw[Ø (by simp[ine,hc]),if_pos hc]
def Uy {α:Type} [DecidableEq α] {l m:List α} (hl:l.length=m.length) (h:Ŏ (fun i a=>if m[i]?=some a then none else some false) 0 l=none):l=m:=by
 have:=ju.1 h;refine List.ext_getElem hl fun i h1 h2=>?_;have h3:=this i l[i] (cF h1);rw[dw] at h3
 split at h3
 ·rename_i h4;rw[cF h2] at h4;exact(Option.some.inj h4).symm
 ·cases h3
def Ux {α:Type} [DecidableEq α] {l m:List α} {b:Bool} (h:Ŏ (fun i a=>if m[i]?=some a then none else some false) 0 l=some b):b=false∧l≠m:=by
 constructor
 ·have:∀(k:Nat) (x:List α) (b:Bool),Ŏ (fun i a=>if m[i]?=some a then none else some false) k x=some b→b=false:=by
   intro k x
   induction x generalizing k with
   |nil=>intro b h; cases h
   |cons a t ih =>
    intro b h;unfold Ŏ at h
    split at h
    ·rename_i c hc
     split at hc
     ·cases hc
     ·cases hc; cases h; rfl
    ·exact ih _ _ h
  exact this _ _ _ h
 ·intro e;subst e;rw[ju.2 fun j a ha=>by rw[dw,if_pos ha]] at h;cases h
def NG {l m:List Int} (hn:l.length≤1000000):jJ l m=some (decide (l=m)):=by
 unfold jJ vG;rw[Ò,Ò]
 by_cases hl:l.length=m.length
 ·rw[Í (by simp[ine,hl])];refine eA (mS l (fun i a=>if m[i]?=some a then none else some false) some (some true) (fun i a hi ha kn=>?_) (fun kn=>?_)) ?_
  ·try dsimp only
   unfold kz;have hm:m[i]?=some m[i]:=List.getElem?_eq_getElem (by omega);rw[Ð hi,È ha,È hm,Ì hi (by omega),hm,Ď]
   by_cases h:a=m[i]
   ·simp[ine,h]
   ·have h':¬m[i]=a:=fun e=>h e.symm;simp[ine,h,h']
  ·try dsimp only
   unfold kz;rw[Þ]
  ·cases h:Ŏ (fun i a=>if m[i]?=some a then none else some false) 0 l with
   |none=>simp[Uy hl h]
   |some b =>
    obtain⟨h1,h2⟩:=Ux h;simp[h1,h2]
 ·rw[Ø (by simp[ine]; omega)];have:l≠m:=fun e=>hl (by rw[e]);simp[this]
structure MixOk (b:ë) (x:Mx):Prop where
 day:0≤x.1∧x.1<20000
 len:2≤x.2.length∧x.2.length≤5
 asc:x.2.Pairwise (·<·)
 known:∀l∈x.2,∃g,ø b l=some g∧g.2.1≤x.1
 home:∀l∈x.2,mb b l x.1=none∧mb b l (x.1+1)=none
def Vd {b:ë} {l:List Mx} {i:Nat} {x:Mx} (h:mixE b l i x=0):MixOk b x∧uZ (fun y=>y.1) l i x=false:=by
 unfold mixE at h
 split at h
 ·cases h
 rename_i h1
 split at h
 ·cases h
 rename_i h2
 split at h
 ·cases h
 rename_i h3
 split at h
 ·cases h
 rename_i h4
 split at h
 ·cases h
 rename_i h5
 split at h
 ·cases h
 rename_i h6;simp only[inP,Bool.not_eq_true',Bool.and_eq_false_iff,not_or,Bool.not_eq_false,decide_eq_false_iff_not,Int.not_le,Bool.and_eq_true,decide_eq_true_eq] at h1;simp only[List.any_eq_true,not_exists,not_and,Option.isNone_iff_eq_none] at h3;simp only[List.any_eq_true,not_exists,not_and,bne_iff_ne,ne_eq,Decidable.not_not] at h4;simp only[List.any_eq_true,not_exists,not_and,Bool.or_eq_true,not_or,Option.isSome_iff_ne_none,ne_eq,Decidable.not_not] at h6;refine⟨⟨by omega,by omega,Decidable.not_not.1 h2,fun y hy=>?_,h6⟩,by simpa using h5⟩;obtain⟨g,hg⟩:=Option.ne_none_iff_exists'.1 (h3 y hy);refine⟨g,hg,?_⟩;have:=h4 y hy;unfold HL at this;rw[hg] at this;dsimp only at this
 split at this
 ·cases this
 ·omega
structure MOk (m:ŕ):Prop where
 good:Ł m.1
 n4:m.2.length≤4
 mixE:∀i x,m.2[i]?=some x→mixE m.1 m.2 i x=0
 prod:Ah m.2≤150
def Ŋ (m:ŕ):ļ m=0↔MOk m:=by
 unfold ļ;constructor
 ·intro h
  split at h
  ·rename_i h1; exact absurd h h1
  rename_i h1
  split at h
  ·cases h
  rename_i h2
  cases hm:PU m.1 m.2 with
  |some e =>
   rw[hm] at h;dsimp only at h;rw[PU] at hm
   have key:∀(l:List Mx) (k:Nat) (e:Int),Ŏ (fun i x=>XH (mixE m.1 m.2 i x)) k l=some e→e≠0:=by
    intro l
    induction l with
    |nil=>intro k e h; cases h
    |cons y l ih =>
     intro k e h;rw[Ŏ] at h
     by_cases hz:mixE m.1 m.2 k y=0
     ·rw[hz] at h;exact ih (k+1) e h
     ·simp only[XH,if_neg hz,Option.some.injEq] at h;rw[←h]; exact hz
   exact absurd h (key _ _ _ hm)
  |none =>
   rw[hm] at h;dsimp only at h
   split at h
   ·cases h
   rename_i h3;refine⟨(ö _).1 (Decidable.not_not.1 h1),by omega,fun i x hx=>?_,by omega⟩;have:=(ju.1 hm) i x hx;rw[Nat.zero_add] at this;unfold XH at this
   split at this
   ·assumption
   ·cases this
 ·intro h;rw[if_neg (by simp[(ö _).2 h.good]),if_neg (by have:=h.n4; omega),Ky h.mixE];dsimp only;rw[if_neg (by have:=h.prod; omega)]
section
variable {m:ŕ}
def MOk.mix (h:MOk m) {x:Mx} (hx:x∈m.2):MixOk m.1 x:=by
 obtain⟨i,hi,rfl⟩:=cS.1 hx;exact(Vd (h.mixE i _ (cF hi))).1
def MOk.days (h:MOk m):m.2.Pairwise fun a b=>a.1<b.1:=(JU (fun y:Mx=>y.1) m.2).1 fun i x hx=>(Vd (h.mixE i x hx)).2
def MOk.len5 (h:MOk m):∀x∈m.2,x.2.length≤5:=fun x hx=>(h.mix hx).len.2
def MOk.in_ (h:MOk m):In m.1:=⟨h.good.size,fun g hg=>by have:=(h.good.gaugeR hg).2.1; unfold I64; omega⟩
end
def Q0 {l:List Int} {i:Nat} (hi:i<l.length):(l[i]::(l.take i++l.drop (i+1))).Perm l:=by
 have h:l=l.take i++l[i]::l.drop (i+1):=by rw[←dE hi,dR]
 exact List.Perm.trans (List.perm_middle.symm) (by rw[←h])
def JA:∀{n:Nat} {l x:List Int},l.length=n→(x∈F8 n l↔x.Perm l)
 |0,l,x,h=>by
  have:l=[]:=cX.1 h;subst this;simp[F8]
 |n+1,l,x,h=>by
  rw[F8,if_neg (by omega)];simp only[dk,fO,df];constructor
  ·rintro⟨i,hi,y,hy,rfl⟩;have hy:=(JA (n:=n) (by simp; omega)).1 hy;rw[d9,cF hi];exact(hy.cons _).trans (Q0 hi)
  ·intro hp
   cases x with
   |nil=>have:=hp.length_eq; simp at this; omega
   |cons a x =>
    have ha:a∈l:=hp.subset (by simp);obtain⟨i,hi,rfl⟩:=cS.1 ha;refine⟨i,hi,x,(JA (n:=n) (by simp; omega)).2 ?_,by rw[d9,cF hi]; rfl⟩;exact List.Perm.cons_inv (hp.trans (Q0 hi).symm)
def Tw {α β:Type} (f:α→List β) (n:Nat):∀l:List α,(∀a∈l,(f a).length=n)→(l.flatMap f).length=l.length*n
 |[],_=>by simp
 |a::l,h=>by
  rw[dz,cJ,h a (by simp),Tw f n l fun b hb=>h b (du _ hb),cW,Nat.succ_mul]; omega
def aaz:∀{n:Nat} {l:List Int},l.length=n→(F8 n l).length=Zl n
 |0,_,_=>rfl
 |n+1,l,h=>by
  rw[F8,if_neg (by omega),Tw _ (Zl n) _ fun i hi=>by rw[dA]; exact aaz (by simp at hi ⊢; omega),fV,Zl,h,Nat.mul_comm]
def Fw:∀{ms:List Mx} {w:Way},w∈jc ms↔Ħ ms w
 |[],[]=>by simp[jc,Ħ]
 |[],_::_=>by simp[jc,Ħ]
 |m::ms,[]=>by simp[jc,Ħ]
 |m::ms,l::ls=>by
  simp only[jc,dk,df,Ħ];constructor
  ·rintro⟨x,hx,y,hy,e⟩;cases e;exact⟨(JA rfl).1 hx,Fw.1 hy⟩
  ·intro⟨h1,h2⟩;exact⟨l,(JA rfl).2 h1,ls,Fw.2 h2,rfl⟩
def Nh:∀ms:List Mx,(jc ms).length=Ah ms
 |[]=>rfl
 |m::ms=>by rw[jc,Tw _ (Ah ms) _ fun x _=>by rw[dA,Nh],aaz rfl,Ah]
def ĥ (ms:List Mx):List Way:=Ľ (Af ms) (jc ms)
def aco {α:Type} {k k':α→Int} {x:α} {l:List α} (hx:k x=k' x) (h:∀y∈l,k y=k' y):acp k x l=acp k' x l:=by
 induction l with
 |nil=>rfl
 |cons y l ih =>
  unfold acp;rw[hx,h y (by simp),ih fun z hz=>h z (List.mem_cons_of_mem _ hz)]
def MG {α:Type} {k k':α→Int}:∀{l:List α},(∀y∈l,k y=k' y)→Ľ k l=Ľ k' l
 |[],_=>rfl
 |x::l,h=>by
  have hl:=MG fun y hy=>h y (du x hy);show acp k x (Ľ k l)=acp k' x (Ľ k' l);rw[hl];exact aco (h x (by simp)) fun y hy=>h y (du _ ((ł (key:=k') l).mem.1 hy))
def ny {ms:List Mx} {w:Way}:w∈ĥ ms↔Ħ ms w:=by
 rw[ĥ,(ł (jc ms)).mem,Fw]
def adc (ms:List Mx):(ĥ ms).length=Ah ms:=by rw[ĥ,(ł (jc ms)).length,Nh]
section
variable {m:ŕ} {ρ:Type}
def MOk.wgt (h:MOk m) {w:Way} (hw:Ħ m.2 w):ĵ m w=some (Af m.2 w) :=
 adb hw (by have:=h.n4; omega) fun x hx=>by have:=h.len5 x hx; omega
def JN {α:Type} {f:List α→α→(List α→Option ρ)→Option ρ} (h:∀v y kn,v.length≤1000000→f v y kn=kn (v++[y])):∀{xs:List α} {v:List α} {K:List α→Option ρ},v.length+xs.length≤1000000→yV f xs v K=K (v++xs)
 |[],v,K,_=>by simp[yV]
 |x::xs,v,K,hl=>by
  simp only[cW] at hl;rw[yV,h v x _ (by omega),JN h (by simp; omega)]; simp
def afp (h:MOk m):mU m.2=some (jc m.2):=by
 unfold mU;rw[ċ];simp only[Bool.and_eq_true,decide_eq_true_eq,List.all_eq_true];exact⟨by have:=h.n4; omega,fun x hx=>by have:=h.len5 x hx; omega⟩
def TJ (h:MOk m):(jc m.2).length≤150:=by rw[Nh]; exact h.prod
def Uq (h:MOk m):Ķ (jc m.2) (Û (jc m.2)) m=some (ĥ m.2,m):=by
 have h2:∀w∈jc m.2,ĵ m w=some (Af m.2 w):=fun w hw=>h.wgt (Fw.1 hw)
 have h3:∀w∈jc m.2,Ė m w=Af m.2 w:=fun w hw=>by unfold Ė; rw[h2 w hw]; rfl
 rw[Ò,adx (fun w hw=>by rw[h2 w hw,h3 w hw]) (by have:=TJ h; omega),MG h3]; rfl
def JX (h:MOk m):sv m=some (ĥ m.2):=by
 unfold sv Rt;have hl:=TJ h;rw[afp h,À,JN (fun v y kn hv=>by unfold B0; rw[ċ (Õ (by simp; omega))]) (by simp; omega),List.nil_append,Uq h];rfl
def agb (hs:In m.1) (hn:m.2.length≤1000):Ff m=some (if ļ m≠0 then([],ļ m) else(ĥ m.2,0)):=by
 unfold Ff RF;rw[nw hs hn,À]
 by_cases hc:ļ m=0
 ·rw[Í (by simp[ine,hc]),if_neg (by simp[hc]),JX ((Ŋ m).1 hc)]; rfl
 ·rw[Ø (by simp[ine,hc]),if_pos hc]
end
def aaH {ρ:Type} (n:Nat) (p:Nat→Bool) (K0 K1:Option ρ) {f:Int→(Int→Option ρ)→Option ρ} (h:∀i:Nat,i<n→∀kn,f i kn=if p i then kn ((i:Int)+1) else K0) (hn:∀kn,f n kn=K1):Ë f 0=if (List.range n).all p then K1 else K0:=by
 have:=Ĺ (List.range n) (fun i=>!p i) (fun _=>K0) K0 K1 (f:=f) (fun _=>rfl) (fun i a hi ha kn=>by
  obtain⟨_,rfl⟩:=cI.1 ha;rw[fV] at hi;rw[h i hi kn,List.getElem_range]
  cases p i<;>rfl) (fun kn=>by rw[fV]; exact hn kn)
 rw[this]
 have e:(List.range n).any (fun i=>!p i)=!(List.range n).all p:=by rw[gP]; simp
 rw[e]
 cases(List.range n).all p<;>rfl
def sq:List Mx→Way→Bool
 |[],[]=>true
 |m::ms,l::ls=>decide (ml l=m.2)&&sq ms ls
 |_,_=>false
def Qk:∀{ms:List Mx} {w:Way},(∀x∈ms,x.2.Pairwise (·<·))→(sq ms w=true↔Ħ ms w)
 |[],[],_=>by simp[sq,Ħ]
 |[],_::_,_=>by simp[sq,Ħ]
 |_::_,[],_=>by simp[sq,Ħ]
 |m::ms,l::ls,h=>by
  rw[sq,Ħ,cH,decide_eq_true_eq,Qk fun x hx=>h x (du _ hx)];have hm:=h m (by simp);refine and_congr ⟨fun e=>by rw[←e]; exact(Š l).symm,fun e=>?_⟩ Iff.rfl;exact List.Perm.eq_of_pairwise (fun a b _ _ h1 h2=>Int.le_antisymm h1 h2) (lO l) (hm.imp fun h=>Int.le_of_lt h) ((Š l).trans e)
def aeK {ms:List Mx} {w:Way} (hl:w.length=ms.length):sq ms w=(List.range ms.length).all fun i=>match ms[i]?,w[i]? with|some m,some l=>decide (ml l=m.2)|_,_=>false:=by
 induction ms generalizing w with
 |nil =>
  have:w=[]:=cX.1 hl;subst this; rfl
 |cons m ms ih =>
  cases w with
  |nil=>simp at hl
  |cons l w =>
   rw[sq,ih (by simpa using hl),cW,List.range_succ_eq_map,fI,List.all_map];rfl
def row_eq {l m:List Int} (hl:l.length=m.length) (hm:m.length≤5):(l.getD 0 0=m.getD 0 0∧l.getD 1 0=m.getD 1 0∧l.getD 2 0=m.getD 2 0∧l.getD 3 0=m.getD 3 0∧l.getD 4 0=m.getD 4 0)↔l=m:=by
 constructor
 ·intro⟨h0,h1,h2,h3,h4⟩;refine List.ext_getElem hl fun i hi hi'=>?_
  have e:∀k:Nat,l.getD k 0=m.getD k 0→k=i→l[i]=m[i]:=fun k hk e=>by
   subst e;simpa[d9,cF hi,cF hi'] using hk
  have:i=0∨i=1∨i=2∨i=3∨i=4:=by omega
  rcases this with h|h|h|h|h
  ·exact e 0 h0 h.symm
  ·exact e 1 h1 h.symm
  ·exact e 2 h2 h.symm
  ·exact e 3 h3 h.symm
  ·exact e 4 h4 h.symm
 ·rintro rfl; simp
def ahe {m:ŕ} (h:MOk m) {w:Way} (hw:∀l∈w,l.length≤100000):E9 m w=some (sq m.2 w):=by
 unfold E9 K3;have hn:=h.n4
 by_cases hl:w.length=m.2.length
 ·rw[Í (by simp[ine,Ò]; omega),aeK hl];have hp:∀i,i<m.2.length→∃x l,m.2[i]?=some x∧w[i]?=some l:=fun i hi=>⟨_,_,cF hi,cF (by omega)⟩;refine eA (aaH m.2.length (fun i=>match m.2[i]?,w[i]? with|some m,some l=>decide (ml l=m.2)|_,_=>false) (some false) (some true) (fun i hi kn=>?_) (fun kn=>?_)) ?_
  ·obtain⟨x,l,hx,hwl⟩:=hp i hi
   try dsimp only
   unfold rK;have hx5:=h.len5 x (List.mem_of_getElem? hx);have hl1:=hw l (List.mem_of_getElem? hwl);rw[Ð (by omega),È hwl,È hx,hx,hwl];dsimp only
   by_cases hll:l.length=x.2.length
   ·rw[Í (by simp[ine,Ò]; omega)];unfold zJ;rw[ċ (Õ (by omega)),À,JN (fun v y kn hv=>by unfold xZ; rw[ċ (Õ (by simp; omega))]) (by simp; omega),List.nil_append,ċ (Õ (by omega))];unfold E8;rw[À,À,QQ];have hr:=row_eq (l:=ml l) (m:=x.2) (by rw[(Š l).length_eq]; exact hll) hx5
    by_cases he:ml l=x.2
    ·obtain⟨e0,e1,e2,e3,e4⟩:=hr.2 he;rw[e0,e1,e2,e3,e4,Í (by simp[xc]),Ô (by omega) (by omega),if_pos (by simpa using he)]
    ·rw[Ø,if_neg (by simpa using he)]
     cases hb:(!((xc ((ml l).getD 0 0) (x.2.getD 0 0))&&((xc ((ml l).getD 1 0) (x.2.getD 1 0))&&((xc ((ml l).getD 2 0) (x.2.getD 2 0))&&((xc ((ml l).getD 3 0) (x.2.getD 3 0))&&((xc ((ml l).getD 4 0) (x.2.getD 4 0))&&true)))))) with
     |true=>rfl
     |false =>
      refine absurd (hr.1 ?_) he;simpa[xc] using hb
   ·rw[Ø (by simp[ine,Ò]; omega),if_neg];intro e;simp only[decide_eq_true_eq] at e;have:=(Š l).length_eq;rw[e] at this;exact hll this.symm
  ·try dsimp only
   unfold rK;rw[Í (by simp[ilt,Ò]; omega)]
  ·cases(List.range m.2.length).all (fun i=>match m.2[i]?,w[i]? with|some m,some l=>decide (ml l=m.2)|_,_=>false)<;>rfl
 ·rw[Ø (by simp[ine,Ò]; omega)];congr 1
  symm
  clear hw
  have key:∀{ms:List Mx} {w:Way},w.length≠ms.length→sq ms w=false:=by
   intro ms
   induction ms with
   |nil=>intro w h; cases w with|nil=>exact absurd rfl h|cons _ _=>rfl
   |cons x ms ih =>
    intro w h
    cases w with
    |nil=>rfl
    |cons l w=>rw[sq,ih (by simpa using h),Bool.and_false]
  exact key hl
def sK (m:ŕ) (w:Way):Int:=if ļ m≠0 then ļ m else if sq m.2 w then 0 else 1
def NA {m:ŕ} (hs:In m.1) (hn:m.2.length≤1000) {w:Way} (hw:∀l∈w,l.length≤100000):uN m w=some (sK m w):=by
 unfold uN Lg sK;rw[nw hs hn,À]
 by_cases hc:ļ m=0
 ·rw[Í (by simp[ine,hc]),if_neg (by simp[hc]),ahe ((Ŋ m).1 hc) hw,À]
  cases sq m.2 w<;>rfl
 ·rw[Ø (by simp[ine,hc]),if_pos hc]
def wI {m:ŕ} {w:Way}:sK m w=0↔MOk m∧Ħ m.2 w:=by
 unfold sK
 by_cases hc:ļ m=0
 ·have h:=(Ŋ m).1 hc;rw[if_neg (by simp[hc])];have:=Qk (w:=w) fun x hx=>(h.mix hx).asc
  cases hi:sq m.2 w with
  |true=>simp[this.1 hi,h]
  |false =>
   exact⟨fun e=>absurd (show(1:Int)=0 from e) (by decide),fun e=>absurd (this.2 e.2) (by simp[hi])⟩
 ·rw[if_pos hc];exact⟨fun e=>absurd e hc,fun⟨e,_⟩=>absurd ((Ŋ m).2 e) hc⟩
section
variable {ρ:Type}
def wn {α β:Type} (l:List α) (g:α→β) (K:List β→Option ρ) {f:Int×List β→(Int×List β→Option ρ)→Option ρ}
 (h:∀(i:Nat) (a:α),i<l.length→l[i]?=some a→∀(v:List β) kn,v.length=i→f (i,v) kn=kn ((i:Int)+1,v++[g a])) (hn:∀(v:List β) kn,f (l.length,v) kn=K v):Ë f (0,[])=K (l.map g):=by
 refine ĩ l (fun i=>(l.take i).map g) _ rfl (fun i a hi ha kn=>?_) (fun kn=>?_)
 ·rw[h i a hi ha _ kn (by simp; omega),take_succ ha,fj]; rfl
 ·rw[hn,fP]
end
def nB (m:ŕ) (w:Way) (d:Int) (l:List Int):List Int:=ml (l.map fun x=>η m.2 w x d)
def ags (m:ŕ) (w:Way) (c:Cmp):Cmp:=(c.1,c.2.1,nB m w c.2.1 c.2.2.1,nB m w c.2.1 c.2.2.2.1,c.2.2.2.2)
def trP (m:ŕ) (w:Way):ë :=
 (m.1.1,m.1.2.1,m.1.2.2.1.map (fun u=>(η m.2 w u.1 u.2,u.2)),m.1.2.2.2.1.map (fun l=>(η m.2 w l.1 l.2.1.1,l.2)),m.1.2.2.2.2.1.map (ags m w),m.1.2.2.2.2.2.map (fun n=>(η m.2 w n.1 n.2,n.2)))
section
variable {ρ:Type} {m:ŕ} {w:Way}
def MOk.who (h:MOk m) (hw:Ħ m.2 w) (x d:Int):tf m w x d=some (η m.2 w x d) :=
 who_ok hw (by have:=h.n4; omega) (fun y hy=>by have:=h.len5 y hy; omega) x d
def tr_L0 (h:MOk m) (hw:Ħ m.2 w) (k0:List (Int×Int)→Option ρ):Ë (fun(v:Int×List (Int×Int)) kk=>ku m w m.1.2.2.1 (Û m.1.2.2.1) v.1 v.2 (fun a b=>kk (a,b)) k0) ((0:Int),[])=k0 (m.1.2.2.1.map fun u=>(η m.2 w u.1 u.2,u.2)):=by
 have hn:=h.good.nU
 refine wn m.1.2.2.1 (fun u:Int×Int=>((η m.2 w u.1 u.2,u.2):Int×Int)) k0 (fun i a hi ha v kn hv=>?_) (fun v kn=>?_)<;>(try dsimp only)<;>unfold ku
 ·rw[Ð hi,È ha,h.who hw,À,ċ (Õ (by simp; omega)),Ì hi (by omega)]
 ·rw[Þ]
def tr_L1 (h:MOk m) (hw:Ħ m.2 w) (k0:List NH→Option ρ):Ë (fun(v:Int×List NH) kk=>ks m w m.1.2.2.2.1 (Û m.1.2.2.2.1) v.1 v.2 (fun a b=>kk (a,b)) k0) ((0:Int),[])=k0 (m.1.2.2.2.1.map fun l=>(η m.2 w l.1 l.2.1.1,l.2)):=by
 have hn:=h.good.nL
 refine wn m.1.2.2.2.1 (fun l:NH=>((η m.2 w l.1 l.2.1.1,l.2):NH)) k0 (fun i a hi ha v kn hv=>?_) (fun v kn=>?_)<;>(try dsimp only)<;>unfold ks
 ·rw[Ð hi,È ha,h.who hw,À,ċ (Õ (by simp; omega)),Ì hi (by omega)]
 ·rw[Þ]
def C3 (h:MOk m) (hw:Ħ m.2 w) (d:Int) {l:List Int} (hl:l.length≤1000):jv l d m w=some (nB m w d l):=by
 unfold jv pW;rw[wn l (fun x:Int=>(η m.2 w x d:Int)) (fun z=>ä (ê z.length) (some (xy z))) (fun i a hi ha v kn hv=>?_) (fun v kn=>?_),ċ (Õ (by simp; omega)),QQ]; rfl
 ·try dsimp only
  unfold ja;rw[Ð hi,È ha,h.who hw,À,ċ (Õ (by simp; omega)),Ì hi (by omega)]
 ·try dsimp only
  unfold ja;rw[Þ]
def tr_L2 (h:MOk m) (hw:Ħ m.2 w) (k0:List Cmp→Option ρ):Ë (fun(v:Int×List Cmp) kk=>kr m w m.1.2.2.2.2.1 (Û m.1.2.2.2.2.1) v.1 v.2 (fun a b=>kk (a,b)) k0) ((0:Int),[])=k0 (m.1.2.2.2.2.1.map (ags m w)):=by
 have hn:=h.good.nC
 refine wn m.1.2.2.2.2.1 (ags m w) k0 (fun i a hi ha v kn hv=>?_) (fun v kn=>?_)<;>(try dsimp only)<;>unfold kr
 ·obtain⟨p1,p2⟩:=h.good.size.piles a (cO ha);rw[Ð hi,È ha,C3 h hw _ p1,À,C3 h hw _ p2,À,ċ (Õ (by simp; omega)),Ì hi (by omega)];rfl
 ·rw[Þ]
def tr_L3 (h:MOk m) (hw:Ħ m.2 w) (k0:List (Int×Int)→Option ρ):Ë (fun(v:Int×List (Int×Int)) kk=>kq m w m.1.2.2.2.2.2 (Û m.1.2.2.2.2.2) v.1 v.2 (fun a b=>kk (a,b)) k0) ((0:Int),[])=k0 (m.1.2.2.2.2.2.map fun n=>(η m.2 w n.1 n.2,n.2)):=by
 have hn:=h.good.nK
 refine wn m.1.2.2.2.2.2 (fun n:Int×Int=>((η m.2 w n.1 n.2,n.2):Int×Int)) k0 (fun i a hi ha v kn hv=>?_) (fun v kn=>?_)<;>(try dsimp only)<;>unfold kq
 ·rw[Ð hi,È ha,h.who hw,À,ċ (Õ (by simp; omega)),Ì hi (by omega)]
 ·rw[Þ]
def nz (h:MOk m) (hw:Ħ m.2 w):Υ m w=some (trP m w):=by
 have h1:=h.good.nG;unfold Υ vu trP;rw[ċ (Õ (by omega)),tr_L0 h hw,tr_L1 h hw,tr_L2 h hw,tr_L3 h hw]
end
def Ze {l:List Int} {x:Int} (h:x∈l):∃k,l.findIdx? (·==x)=some k∧l[k]?=some x:=by
 cases hf:l.findIdx? (·==x) with
 |none =>
  have:=dF.1 hf x h;simp at this
 |some k =>
  obtain⟨hk,he,_⟩:=dI.1 hf;exact⟨k,rfl,by rw[cF hk]; simpa using he⟩
def Tp {l:List Int} {x:Int} (h:x∉l):l.findIdx? (·==x)=none:=by
 rw[dF];intro y hy;simp only[beq_eq_false_iff_ne];exact fun e=>h (e▸hy)
def idx_at {l:List Int} (hn:l.Nodup) {k:Nat} {x:Int} (h:l[k]?=some x):l.findIdx? (·==x)=some k:=by
 obtain⟨j,hj,hx⟩:=Ze (cO h);obtain⟨h1,e1⟩:=cI.1 h;obtain⟨h2,e2⟩:=cI.1 hx;rw[hj,(List.getElem_inj hn).1 (e2.trans e1.symm)]
def Z7 {d d0:Int} {l k:List Int} (hl:l.Nodup) (hk:k.Nodup) (hp:l.Perm k) (x:Int):stp d (d0,k) l (stp d (d0,l) k x)=x:=by
 unfold stp
 by_cases hd:d0<d
 ·simp only[if_pos hd]
  by_cases hx:x∈k
  ·obtain⟨i,h1,h2⟩:=Ze hx;rw[h1];dsimp only
   have hi:i<l.length:=by rw[hp.length_eq]; exact(cI.1 h2).1
   have e:l[i]?=some (l.getD i 0):=by rw[d9,cF hi]; rfl
   rw[idx_at hl e];dsimp only;rw[List.getD_eq_getElem?_getD,h2]; rfl
  ·rw[Tp hx];dsimp only;rw[Tp fun h=>hx (hp.subset h)]
 ·simp only[if_neg hd]
def ads {d:Int} {m:Mx} {l:List Int} (hp:l.Perm m.2) (x:Int):stp d m l x=x∨(m.1<d∧x∈m.2∧stp d m l x∈m.2):=by
 unfold stp
 by_cases hd:m.1<d
 ·simp only[if_pos hd]
  by_cases hx:x∈l
  ·obtain⟨i,h1,h2⟩:=Ze hx;rw[h1];dsimp only
   have hi:i<m.2.length:=by rw[←hp.length_eq]; exact(cI.1 h2).1
   exact .inr ⟨hd,hp.subset hx,by rw[d9,cF hi]; exact fe hi⟩
  ·rw[Tp hx];exact .inl rfl
 ·simp only[if_neg hd];exact .inl trivial
def aij:List Mx→Way→Int→Int→Int
 |m::ms,l::ls,x,d=>aij ms ls (stp d (m.1,l) m.2 x) d
 |_,_,x,_=>x
def af6 {l:List Int} (h:l.Pairwise (·<·)):l.Nodup:=h.imp fun h=>Int.ne_of_lt h
def ac9:∀{ms:List Mx} {w:Way},Ħ ms w→(∀x∈ms,x.2.Nodup)→∀x d,η ms w (aij ms w x d) d=x
 |[],[],_,_,x,d=>rfl
 |m::ms,l::ls,h,hn,x,d=>by
  rw[aij,η,ac9 h.2 fun y hy=>hn y (du _ hy)];exact Z7 (d0:=m.1) (h.1.nodup_iff.2 (hn m (by simp))) (hn m (by simp)) h.1 x
def Y6:∀{ms:List Mx} {w:Way},Ħ ms w→(∀x∈ms,x.2.Nodup)→∀x d,aij ms w (η ms w x d) d=x
 |[],[],_,_,x,d=>rfl
 |m::ms,l::ls,h,hn,x,d=>by
  rw[aij,η];have:=Z7 (d:=d) (d0:=m.1) (l:=m.2) (k:=l) (hn m (by simp)) (h.1.nodup_iff.2 (hn m (by simp))) h.1.symm (η ms ls x d);rw[show stp d (m.1,l) m.2 (stp d m l (η ms ls x d))=_ from this];exact Y6 h.2 (fun y hy=>hn y (du _ hy)) x d
def XK:∀{ms:List Mx} {w:Way} (Q:Int→Prop) {d:Int},Ħ ms w→(∀m∈ms,m.1<d→∀x∈m.2,Q x)→∀{x:Int},Q x→Q (η ms w x d)
 |[],[],Q,d,_,_,x,hx=>hx
 |m::ms,l::ls,Q,d,h,hm,x,hx=>by
  have:=XK (x:=x) Q h.2 (fun y hy=>hm y (du _ hy)) hx;rw[η];rcases ads (d:=d) h.1 (η ms ls x d) with e|⟨e1,_,e2⟩
  ·rw[e]; exact this
  ·exact hm m (by simp) e1 _ e2
def CX:∀{ms:List Mx} {w:Way} {d:Int},Ħ ms w→∀{x:Int},(∀m∈ms,m.1<d→x∉m.2)→η ms w x d=x
 |[],[],d,_,x,_=>rfl
 |m::ms,l::ls,d,h,x,hm=>by
  rw[η,CX h.2 fun y hy=>hm y (du _ hy)];rcases ads (d:=d) h.1 x with e|⟨e1,e2,_⟩
  ·exact e
  ·exact absurd e2 (hm m (by simp) e1)
def T9:∀{ms:List Mx} {w:Way} {d e:Int},Ħ ms w→ms.Pairwise (fun a b=>a.1<b.1)→d≤e→∀{x:Int},(∀m∈ms,d≤m.1→m.1<e→x∉m.2)→η ms w x e=η ms w x d
 |[],[],d,e,_,_,_,x,_=>rfl
 |m::ms,l::ls,d,e,h,hs,hde,x,hm=>by
  rw[dt] at hs;rcases gX m.1 d with hlt|hge
  ·rw[η,η,T9 h.2 hs.2 hde fun y hy=>hm y (du _ hy)]
   have e1:∀y,stp e m l y=stp d m l y:=fun y=>by unfold stp; rw[if_pos hlt,if_pos (by omega)]
   exact e1 _
  ·have e1:η (m::ms) (l::ls) x e=x:=CX h fun y hy hye=>by
    rcases cN.1 hy with rfl|hy'
    ·exact hm y (by simp) hge hye
    ·exact hm y hy (by have:=hs.1 y hy'; omega) hye
   have e2:η (m::ms) (l::ls) x d=x:=CX h fun y hy hyd=>by
    rcases cN.1 hy with rfl|hy'
    ·omega
    ·have:=hs.1 y hy'; omega
   rw[e1,e2]
def tE {b:ë} (hi:b.2.1.Pairwise fun a b=>a.1<b.1) {id day:Int}:nH (ő b) id day=0↔∃g,ø b id=some g∧g.2.1≤day:=by
 rw[←XU hi];unfold HL
 cases ø b id with
 |none=>simp
 |some g =>
  dsimp only
  by_cases h:day<g.2.1
  ·rw[if_pos h]; simp; omega
  ·rw[if_neg h]; simp; omega
def CZ {b:ë} (hi:b.2.1.Pairwise fun a b=>a.1<b.1) {id day:Int}:HF (ő b) id day=0↔JT day=true∧∃g,ø b id=some g∧g.2.1≤day:=by
 unfold HF
 cases JT day with
 |false=>simp
 |true=>simp[tE hi]
def WI {b:ë} (hi:b.2.1.Pairwise fun a b=>a.1<b.1) {i:Nat} {l:NH}:Tf b (ő b) i l=0↔mu l.2.1 0 20000=true∧inP l.2.2 0 1048576=true∧(∃g,ø b l.1=some g∧g.2.1≤l.2.1.1) ∧
 (∀x∈b.2.2.2.1.take i,x.1=l.1→¬(x.2.1.1≤l.2.1.2∧l.2.1.1≤x.2.1.2))∧∀u∈b.2.2.1,u.1=l.1→inP u.2 l.2.1.1 l.2.1.2=false:=by
 unfold Tf;rw[←tE hi]
 cases mu l.2.1 0 20000 with
 |false=>simp
 |true =>
  cases inP l.2.2 0 1048576 with
  |false=>simp
  |true =>
   by_cases h:nH (ő b) l.1 l.2.1.1=0
   ·simp only[h,dB,cV,if_false,bne_self_eq_false,true_and]
    split
    ·rename_i h1;simp only[dj,cH,beq_iff_eq,decide_eq_true_eq] at h1;obtain⟨x,hx,e1,e2⟩:=h1;exact⟨fun e=>absurd e (by decide),fun e=>absurd e2 (e.1 x hx e1)⟩
    ·rename_i h1;simp only[dj,cH,beq_iff_eq,decide_eq_true_eq,not_exists,not_and] at h1
     split
     ·rename_i h2;simp only[dj,cH,beq_iff_eq] at h2;obtain⟨u,hu,e1,e2⟩:=h2;exact⟨fun e=>absurd e (by decide),fun e=>by have:=e.2 u hu e1; rw[e2] at this; cases this⟩
     ·rename_i h2;simp only[dj,cH,beq_iff_eq,not_exists,not_and] at h2;exact⟨fun _=>⟨fun x hx e ⟨p,q⟩=>h1 x hx e p q,fun u hu e=>by simpa using h2 u hu e⟩,fun _=>rfl⟩
   ·simp[h]
def PG {b:ë} (hi:b.2.1.Pairwise fun a b=>a.1<b.1) {c:Cmp}:xC b (ő b) c=0↔(∀x∈c.2.2.1++c.2.2.2.1,(∃g,ø b x=some g∧g.2.1≤c.2.1)∧mb b x c.2.1=none) ∧
 (û c.2.2.1 c.2.2.2.1).length≤1∧(û c.2.2.2.1 c.2.2.1).length≤1∧(û c.2.2.1 c.2.2.2.1).length+(û c.2.2.2.1 c.2.2.1).length≠0:=by
 unfold xC;constructor
 ·intro h
  split at h
  ·cases h
  rename_i h1
  split at h
  ·cases h
  rename_i h2
  split at h
  ·cases h
  rename_i h3
  split at h
  ·cases h
  split at h
  ·cases h
  split at h
  ·cases h
  simp only[dj,not_exists,not_and,beq_iff_eq] at h1 h2;simp only[dj,not_exists,not_and,Option.isSome_iff_ne_none,ne_eq,Decidable.not_not] at h3;refine⟨fun x hx=>⟨(tE hi).1 ?_,h3 x hx⟩,by omega,by omega,by omega⟩;rcases KH (ő b) x c.2.1 with e|e|e
  ·exact e
  ·exact absurd e (h2 x hx)
  ·exact absurd e (h1 x hx)
 ·intro⟨h1,h2,h3,h4⟩;have hz:∀x∈c.2.2.1++c.2.2.2.1,nH (ő b) x c.2.1=0:=fun x hx=>(tE hi).2 (h1 x hx).1;rw[if_neg,if_neg,if_neg,if_neg (by omega),if_neg (by omega),if_neg h4]
  ·simp only[dj,not_exists,not_and,Option.isSome_iff_ne_none,ne_eq,Decidable.not_not];exact fun x hx=>(h1 x hx).2
  ·simp only[dj,not_exists,not_and,beq_iff_eq]
   exact fun x hx e=>by rw[hz x hx] at e; cases e
  ·simp only[dj,not_exists,not_and,beq_iff_eq]
   exact fun x hx e=>by rw[hz x hx] at e; cases e
def Hy {b:ë} {x d:Int}:mb b x d=none↔∀l∈b.2.2.2.1,l.1=x→inP d l.2.1.1 l.2.1.2=false:=by
 unfold mb;rw[List.find?_eq_none];simp
def xD {m:ŕ} {w:Way} {d:Int} {l:List Int} {y:Int}:y∈nB m w d l↔∃x∈l,η m.2 w x d=y:=by
 unfold nB;rw[(Š _).mem_iff,List.mem_map]
section
variable {m:ŕ} {w:Way}
def MOk.nd (h:MOk m):∀x∈m.2,x.2.Nodup:=fun x hx=>af6 (h.mix hx).asc
def MOk.inj (h:MOk m) (hw:Ħ m.2 w) {d x y:Int} (e:η m.2 w x d=η m.2 w y d):x=y:=by
 rw[←Y6 hw h.nd x d,e,Y6 hw h.nd]
def MOk.whoG (h:MOk m) (hw:Ħ m.2 w) {d x:Int} (hx:∃g,ø m.1 x=some g∧g.2.1≤d):∃g,ø m.1 (η m.2 w x d)=some g∧g.2.1≤d :=
 XK (fun y=>∃g,ø m.1 y=some g∧g.2.1≤d) hw (fun y hy hd z hz=>by
  obtain⟨g,h1,h2⟩:=(h.mix hy).known z hz
  exact⟨g,h1,by omega⟩) hx
def MOk.made (h:MOk m) (hw:Ħ m.2 w) {x:Int} {g:ò} (hg:ø m.1 x=some g):η m.2 w x g.2.1=x :=
 CX hw fun y hy hd hx=>by
  obtain⟨g',h1,h2⟩:=(h.mix hy).known x hx;rw[hg] at h1; cases h1;omega
def MOk.loan (h:MOk m) (hw:Ħ m.2 w) {l:NH} (hl:l∈m.1.2.2.2.1) {d:Int} (hd:inP d l.2.1.1 l.2.1.2=true):η m.2 w l.1 d=η m.2 w l.1 l.2.1.1:=by
 simp only[inP,cH,decide_eq_true_eq] at hd;refine T9 hw h.days hd.1 fun y hy h1 h2 hx=>?_;have:=(Hy.1 ((h.mix hy).home _ hx).1) l hl rfl;simp only[inP,gW,decide_eq_false_iff_not] at this;omega
def aeI (h:MOk m) (hw:Ħ m.2 w) (d:Int) (A B:List Int):(û (nB m w d A) (nB m w d B)).Perm ((û A B).map fun x=>η m.2 w x d):=by
 unfold û;refine((Š _).filter _).trans ?_;rw[List.filter_map];refine List.Perm.of_eq ?_;congr 1;refine List.filter_congr fun x hx=>?_;simp only[Function.comp];congr 1;rw[Bool.eq_iff_iff,List.contains_iff_mem,List.contains_iff_mem,xD];exact⟨fun⟨y,hy,e⟩=>h.inj hw e▸hy,fun hy=>⟨x,hy,rfl⟩⟩
def aan (h:MOk m) (hw:Ħ m.2 w) {d:Int} {l:List Int} (hp:xE l=true) (hk:∀x∈l,∃g,ø m.1 x=some g∧g.2.1≤d):xE (nB m w d l)=true:=by
 obtain⟨h1,h2,h3⟩:=(Ki l).1 hp;refine(Ki _).2 ⟨fun y hy=>?_,?_,by unfold nB; rw[(Š _).length_eq,List.length_map]; exact h3⟩
 ·obtain⟨x,hx,rfl⟩:=xD.1 hy;obtain⟨g,hg,_⟩:=h.whoG hw (hk x hx);obtain⟨g1,g2⟩:=Τ hg;have:=(h.good.gaugeR g1).2.2.2.1;rw[←g2]; exact this
 ·have hnd:(nB m w d l).Nodup:=by
   unfold nB;rw[(Š _).nodup_iff];exact List.pairwise_map.2 (h2.imp fun hlt e=>by have:=h.inj hw e; omega)
  exact((lO _).and hnd).imp fun⟨a,b⟩=>Int.lt_iff_le_and_ne.2 ⟨a,b⟩
def aiK (h:MOk m) (hw:Ħ m.2 w) {x d:Int} (ha:mb m.1 x d=none):mb (trP m w) (η m.2 w x d) d=none:=by
 rw[Hy];intro l' hl' e;obtain⟨l,hl,rfl⟩:=df.1 hl'
 cases hd:inP d l.2.1.1 l.2.1.2 with
 |false=>rfl
 |true =>
  rw[←h.loan hw hl hd] at e;have:=Hy.1 ha l hl (h.inj hw e);rw[hd] at this; cases this
def pU {b:ë} (hi:b.2.1.Pairwise fun a b=>a.1<b.1):(Ê b).Nodup:=by
 unfold Ê List.Nodup;rw[List.pairwise_flatMap];refine⟨fun g _=>List.pairwise_map.2 ((tj b g).imp fun h e=>by cases e; omega),hi.imp fun hlt x hx y hy e=>?_⟩;obtain⟨d,_,rfl⟩:=List.mem_map.1 hx;obtain⟨d',_,rfl⟩:=List.mem_map.1 hy;simp only[Prod.mk.injEq] at e;omega
def nE {b:ë} {x d:Int}:(x,d)∈Ê b↔∃g∈b.2.1,g.1=x∧d∈ß b g:=by
 unfold Ê;simp only[List.mem_flatMap,List.mem_map];constructor
 ·rintro⟨g,hg,d',hd,e⟩;cases e;exact⟨g,hg,rfl,hd⟩
 ·rintro⟨g,hg,rfl,hd⟩;exact⟨g,hg,d,hd,rfl⟩
def zY (h:MOk m) (hw:Ħ m.2 w) {d:Int} {A:List Int} {x:Int}:(nB m w d A).contains (η m.2 w x d)=A.contains x:=by
 rw[gI,fu,fu,xD];exact⟨fun⟨y,hy,e⟩=>h.inj hw e▸hy,fun hy=>⟨x,hy,rfl⟩⟩
def ado (h:MOk m) (hw:Ħ m.2 w) {x d:Int} (hn:(x,d)∈Ê m.1):(η m.2 w x d,d)∈Ê (trP m w):=by
 obtain⟨g,hg,rfl,hd⟩:=nE.1 hn;have hgo:=qA h.good.ids hg;obtain⟨g',e1,_⟩:=h.whoG hw (x:=g.1) (d:=d) ⟨g,hgo,(h.good.day hg hd).1⟩;obtain⟨e2,e3⟩:=Τ e1;refine nE.2 ⟨g',e2,e3,Β.2 ?_⟩;rcases Β.1 hd with rfl|⟨c,hc,e4,rfl⟩|⟨n,hnn,e4,rfl⟩
 ·rw[h.made hw hgo,hgo] at e1;cases e1;exact .inl rfl
 ·refine .inr (.inl ⟨ags m w c,df.2 ⟨c,hc,rfl⟩,?_,rfl⟩);rw[e3];show(nB m w c.2.1 c.2.2.1).contains _≠(nB m w c.2.1 c.2.2.2.1).contains _;rw[zY h hw,zY h hw];exact e4
 ·exact .inr (.inr ⟨_,df.2 ⟨n,hnn,rfl⟩,by rw[e3,e4],rfl⟩)
def HH (h:MOk m) (hw:Ħ m.2 w) {y d:Int} (hn:(y,d)∈Ê (trP m w)):∃x,η m.2 w x d=y∧(x,d)∈Ê m.1:=by
 obtain⟨g,hg,rfl,hd⟩:=nE.1 hn;have hg:g∈m.1.2.1:=hg;have hgo:=qA h.good.ids hg;have hx:η m.2 w (aij m.2 w g.1 d) d=g.1:=ac9 hw h.nd _ _
 have fin:∀x,η m.2 w x d=g.1→(∃g',ø m.1 x=some g')→(∀g':ò,g'.1=x→d∈ß m.1 g')→∃x,η m.2 w x d=g.1∧(x,d)∈Ê m.1:=fun x e ⟨g',e1⟩ e2=>by
  obtain⟨e3,e4⟩:=Τ e1;exact⟨x,e,nE.2 ⟨g',e3,e4,e2 g' e4⟩⟩
 rcases Β.1 hd with e|⟨c',hc',e4,e5⟩|⟨n',hn',e4,e5⟩
 ·subst e;exact⟨g.1,h.made hw hgo,nE.2 ⟨g,hg,rfl,pu g⟩⟩
 ·obtain⟨c,hc,rfl⟩:=df.1 hc';have e5:c.2.1=d:=e5;subst e5;have e4:(nB m w c.2.1 c.2.2.1).contains g.1≠(nB m w c.2.1 c.2.2.2.1).contains g.1:=e4;rw[←hx,zY h hw,zY h hw] at e4;refine fin _ hx ?_ fun g' e=>Β.2 (.inr (.inl ⟨c,hc,by rw[e]; exact e4,rfl⟩))
  have:aij m.2 w g.1 c.2.1∈c.2.2.1++c.2.2.2.1:=by
   rw[cM,←fu,←fu]
   cases h1:c.2.2.1.contains (aij m.2 w g.1 c.2.1) with
   |true=>exact .inl rfl
   |false =>
    rw[h1] at e4;exact .inr (by simpa using e4)
  obtain⟨⟨g',e,_⟩,_⟩:=h.good.pile hc this;exact⟨g',e⟩
 ·obtain⟨n,hnl,rfl⟩:=df.1 hn';have e5:n.2=d:=e5;have e4:η m.2 w n.1 n.2=g.1:=e4;subst e5;obtain⟨_,g',e,_⟩:=(CZ h.good.ids).1 (h.good.looks n hnl);exact fin n.1 e4 ⟨g',e⟩ fun g'' e=>Β.2 (.inr (.inr ⟨n,hnl,e.symm,rfl⟩))
def xf (m:ŕ) (w:Way) (n:Int×Int):Int×Int:=(η m.2 w n.1 n.2,n.2)
def adq (h:MOk m):(trP m w).2.1.Pairwise fun a b=>a.1<b.1:=h.good.ids
def adp (h:MOk m) (hw:Ħ m.2 w):(Ê (trP m w)).length=(Ê m.1).length:=by
 have h1:(Ê (trP m w)).length≤((Ê m.1).map (xf m w)).length:=dY (pU (adq h)) fun n hn=>by
  obtain⟨x,e,hx⟩:=HH (y:=n.1) (d:=n.2) h hw hn;exact df.2 ⟨(x,n.2),hx,Prod.ext e rfl⟩
 have h2:((Ê m.1).map (xf m w)).length≤(Ê (trP m w)).length:=by
  have hnd:((Ê m.1).map (xf m w)).Nodup:=by
   refine List.pairwise_map.2 ((pU h.good.ids).imp ?_);intro a b hne e;unfold xf at e;simp only[Prod.mk.injEq] at e;obtain⟨e1,e2⟩:=e;rw[e2] at e1;exact hne (Prod.ext (h.inj hw e1) e2)
  refine dY hnd fun n hn=>?_;obtain⟨⟨x,d⟩,hx,rfl⟩:=df.1 hn;exact ado h hw hx
 rw[dA] at h1 h2;omega
def oA (h:MOk m) (hw:Ħ m.2 w):Ł (trP m w):=by
 have hg:=h.good;have hids:=adq (w:=w) h;have hsh:ő (trP m w)=ő m.1:=rfl;have hgo:∀x,ø (trP m w) x=ø m.1 x:=fun _=>rfl;have hlen:=adp h hw;refine⟨hg.film,hg.nG,by simpa[trP] using hg.nU,by simpa[trP] using hg.nL,by simpa[trP] using hg.nC,by simpa[trP] using hg.nK,hg.gauge,hids,?_,?_,?_,?_,by rw[hlen]; exact hg.nodes,by rw[hlen]; simpa[trP] using hg.links⟩
 ·intro u' hu';obtain⟨u,hu,rfl⟩:=df.1 hu';obtain⟨e1,e2⟩:=(CZ hg.ids).1 (hg.uses u hu);exact(CZ hids).2 ⟨e1,h.whoG hw e2⟩
 ·intro i l' hl'
  obtain⟨l,hl,rfl⟩:∃l,m.1.2.2.2.1[i]?=some l∧(η m.2 w l.1 l.2.1.1,l.2)=l':=by
   have:(m.1.2.2.2.1.map (fun l:NH=>(η m.2 w l.1 l.2.1.1,l.2)))[i]?=some l':=hl';rw[eQ] at this
   cases hx:m.1.2.2.2.1[i]? with
   |none=>rw[hx] at this; cases this
   |some l=>rw[hx] at this; exact⟨l,rfl,by simpa using this⟩
  have hlm:=cO hl;obtain⟨e1,e2,e3,e4,e5⟩:=(WI hg.ids).1 (hg.loans i l hl);refine(WI hids).2 ⟨e1,e2,h.whoG hw e3,fun x' hx' ex hov=>?_,fun u' hu' eu=>?_⟩
  ·have hx':x'∈(m.1.2.2.2.1.map (fun l:NH=>(η m.2 w l.1 l.2.1.1,l.2))).take i:=hx';rw[←List.map_take] at hx';obtain⟨x,hx,rfl⟩:=List.mem_map.1 hx';have hxm:=List.mem_of_mem_take hx;have s1:=(uH hg hxm).1;have s2:=(uH hg hlm).1;dsimp only at ex hov
   have d1:inP (max x.2.1.1 l.2.1.1) x.2.1.1 x.2.1.2=true:=by simp[inP]; omega
   have d2:inP (max x.2.1.1 l.2.1.1) l.2.1.1 l.2.1.2=true:=by simp[inP]; omega
   rw[←h.loan hw hxm d1,←h.loan hw hlm d2] at ex;exact e4 x hx (h.inj hw ex) hov
  ·obtain⟨u,hu,rfl⟩:=List.mem_map.1 hu';dsimp only at eu ⊢
   cases hd:inP u.2 l.2.1.1 l.2.1.2 with
   |false=>rfl
   |true =>
    rw[←h.loan hw hlm hd] at eu;have:=e5 u hu (h.inj hw eu);rw[hd] at this; cases this
 ·intro i c' hc'
  obtain⟨c,hc,rfl⟩:∃c,m.1.2.2.2.2.1[i]?=some c∧ags m w c=c':=by
   have:(m.1.2.2.2.2.1.map (ags m w))[i]?=some c':=hc';rw[eQ] at this
   cases hx:m.1.2.2.2.2.1[i]? with
   |none=>rw[hx] at this; cases this
   |some l=>rw[hx] at this; exact⟨l,rfl,by simpa using this⟩
  have hcm:=cO hc;obtain⟨n1,n2,n3,n4,n5,n6,n7⟩:=(iO c).1 (hg.nums hcm);have hp:=(PG hg.ids).1 (hg.pilesOf hcm);have hk:∀x∈c.2.2.1++c.2.2.2.1,∃g,ø m.1 x=some g∧g.2.1≤c.2.1:=fun x hx=>(hp.1 x hx).1;have hnum:Yd (ags m w c)=true:=(iO _).2 ⟨n1,n2,n3,n4,n5,aan h hw n6 fun x hx=>hk x (dD _ hx),aan h hw n7 fun x hx=>hk x (dC _ hx)⟩;have l1:=(aeI h hw c.2.1 c.2.2.1 c.2.2.2.1).length_eq;have l2:=(aeI h hw c.2.1 c.2.2.2.1 c.2.2.1).length_eq;rw[dA] at l1 l2
  have hpi:xC (trP m w) (ő (trP m w)) (ags m w c)=0:=by
   refine(PG hids).2 ⟨fun y hy=>?_,?_,?_,?_⟩
   ·have hy:y∈nB m w c.2.1 c.2.2.1++nB m w c.2.1 c.2.2.2.1:=hy
    obtain⟨x,hx,rfl⟩:∃x∈c.2.2.1++c.2.2.2.1,η m.2 w x c.2.1=y:=by
     rcases cM.1 hy with hy|hy
     ·obtain⟨x,hx,e⟩:=xD.1 hy;exact⟨x,dD _ hx,e⟩
     ·obtain⟨x,hx,e⟩:=xD.1 hy;exact⟨x,dC _ hx,e⟩
    exact⟨h.whoG hw (hk x hx),aiK h hw (hp.1 x hx).2⟩
   ·show(û (nB m w c.2.1 c.2.2.1) (nB m w c.2.1 c.2.2.2.1)).length≤1;rw[l1]; exact hp.2.1
   ·show(û (nB m w c.2.1 c.2.2.2.1) (nB m w c.2.1 c.2.2.1)).length≤1;rw[l2]; exact hp.2.2.1
   ·show(û (nB m w c.2.1 c.2.2.1) (nB m w c.2.1 c.2.2.2.1)).length+(û (nB m w c.2.1 c.2.2.2.1) (nB m w c.2.1 c.2.2.1)).length≠0;rw[l1,l2]; exact hp.2.2.2
  have h0:=hg.compares i c hc;unfold pv at h0 ⊢;rw[hg.nums hcm] at h0;rw[hnum,hpi]
  have ht:((trP m w).2.2.2.2.1.take i).any (fun x=>x.1==(ags m w c).1)=(m.1.2.2.2.2.1.take i).any fun x=>x.1==c.1:=by
   show((m.1.2.2.2.2.1.map (ags m w)).take i).any _=_;rw[←List.map_take,List.any_map]; rfl
  rw[ht];simp only[dB,cV,if_false] at h0 ⊢
  split at h0
  ·cases h0
  ·rename_i h1; rw[if_neg h1]
 ·intro n' hn';obtain⟨n,hn,rfl⟩:=df.1 hn';obtain⟨e1,e2⟩:=(CZ hg.ids).1 (hg.looks n hn);exact(CZ hids).2 ⟨e1,h.whoG hw e2⟩
end
section
variable {L:List Lk} {N:Nat}
def T5 (h:jA L N):nr ((N:Int),L)=some (kZ L N,0):=by
 have h2:=h.n60;unfold nr sW;rw[jL h,À];dsimp only;rw[Í (by rfl),vk h.links h.n1 (by omega),À]
 cases kZ L N<;>rfl
end
def ZR (x y:List Int):List Int×List Int×Int:=if !xE x then([],[],1) else if !xE y then([],[],1) else(û x y,û y x,0)
def agn {x y:List Int} (hx:x.length≤100000) (hy:y.length≤100000):pM x y=some (ZR x y):=by
 unfold pM G7 ZR;rw[ES (by omega),À]
 cases xE x with
 |false=>rfl
 |true =>
  rw[ES (by omega),À]
  cases xE y with
  |false=>rfl
  |true =>
   rw[ta (by omega) (by omega),À,ta (by omega) (by omega),À];rfl
def less (b:ë) (ids:List Int):ë:=(b.1,b.2.1,b.2.2.1,b.2.2.2.1,b.2.2.2.2.1.filter (fun c=>!ids.contains c.1),b.2.2.2.2.2)
section
variable {b:ë} {ids:List Int}
def aeF (h:qF b):qF (less b ids) :=
 ⟨h.gauges,h.uses,h.loans,cY (dX _ _) h.compares,h.looks,fun c hc=>h.piles c (dH.1 hc).1⟩
def Ł.distinct (h:Ł b):b.2.2.2.2.1.Pairwise fun a c=>a.1≠c.1:=by
 rw[List.pairwise_iff_getElem];intro i j hi hj hij he;have hz:=h.compares j _ (List.getElem?_eq_getElem hj);unfold pv at hz
 have hany:(b.2.2.2.2.1.take j).any (fun x=>x.1==b.2.2.2.2.1[j].1)=true:=by
  rw[dj];exact⟨b.2.2.2.2.1[i],cS.2 ⟨i,by rw[cZ]; omega,by rw[eX]⟩,by simp[he]⟩
 rw[hany] at hz
 (repeat' split at hz)<;>first|omega|simp_all
def aeX {α β:Type} (f g:α→List β):∀l:List α,(∀a∈l,(f a).length≤(g a).length)→(l.flatMap f).length≤(l.flatMap g).length
 |[],_=>cG _
 |a::l,h=>by
  rw[dz,dz,cJ,cJ];have:=h a (by simp);have:=aeX f g l fun c hc=>h c (by simp[hc]);omega
def lt_len:∀{x y:List Int},x.Pairwise (·<·)→(∀a∈x,a∈y)→x.length≤y.length:=by
 intro x y hx h;exact(dY (hx.imp fun h=>by omega) h)
def Ł.less (h:Ł b) (ids:List Int):Ł (less b ids):=by
 have hsub:∀c∈(ZzM.less b ids).2.2.2.2.1,c∈b.2.2.2.2.1:=fun c hc=>(dH.1 hc).1;have hlen:(ZzM.less b ids).2.2.2.2.1.length≤b.2.2.2.2.1.length:=dX _ _
 have hdays:∀g,(ß (ZzM.less b ids) g).length≤(ß b g).length:=fun g=>lt_len (tj _ g) fun d hd=>by
  rcases Β.1 hd with e|⟨c,hc,h1,h2⟩|hn
  ·exact Β.2 (.inl e)
  ·exact Β.2 (.inr (.inl ⟨c,hsub c hc,h1,h2⟩))
  ·exact Β.2 (.inr (.inr hn))
 have hnodes:(Ê (ZzM.less b ids)).length≤(Ê b).length:=aeX _ _ _ fun g _=>by rw[dA,dA]; exact hdays g
 have hN:=h.nodes;have hC:=h.nC;refine⟨h.film,h.nG,h.nU,h.nL,Nat.le_trans hlen h.nC,h.nK,h.gauge,h.ids,h.uses,h.loans,fun i c hc=>?_,h.looks,Nat.le_trans hnodes hN,by omega⟩;have hcm:=hsub c (List.mem_of_getElem? hc);obtain⟨j,hj,hjc⟩:=List.mem_iff_getElem.1 hcm;have hz:=h.compares j c (by rw[List.getElem?_eq_getElem hj,hjc]);unfold pv at hz ⊢
 split at hz
 ·omega
 rename_i h1
 split at hz
 ·omega
 rw[if_neg h1,if_neg ?_]
 ·exact hz
 ·intro hany;obtain⟨x,hx,he⟩:=dj.1 hany;obtain⟨k,hk,hkx⟩:=cS.1 hx;rw[cZ] at hk;rw[eX] at hkx;obtain⟨hi,hic⟩:=cI.1 hc;have hp:=dm.1 ((h.distinct.sublist List.filter_sublist:(ZzM.less b ids).2.2.2.2.1.Pairwise fun a c=>a.1≠c.1)) k i (by omega) hi (by omega);rw[hkx,hic] at hp;exact hp (eq_of_beq he)
end
abbrev zC:Cmp:=((0:Int),(0:Int),[],[],(0:Int),(0:Int),(0:Int),(0:Int))
section
variable {a:List Cmp} {b:List Int}
def G9 (b:List Int) (a:List Cmp):List Cmp:=a.filter fun c=>!b.contains c.1
def Zr (ha:a.length≤1000000) (hb:b.length≤1000000) (K:List Cmp→Option (ë×Int)):∀z:Nat,z<a.length→G9 b (a.take z)=a.take z→(∀c,a[z]?=some c→b.contains c.1=true) →
 Ë (fun(v21:Int×Int×List Cmp) kk25=>ε b v21.1 v21.2.1 v21.2.2 (fun u22 u23 u24=>kk25 (u22,u23,u24)) (fun z19=>ä ((ile (0:Int) z19.1)&&(ile z19.1 (î z19.2))) (ä ((ile (0:Int) z19.1)&&(ile z19.1 (î (List.take (Int.toNat z19.1) z19.2++List.replicate (List.length z19.2-(Int.toNat z19.1)) zC++List.drop ((Int.toNat z19.1)+(List.length z19.2-(Int.toNat z19.1))) z19.2)))) (K (List.take (Int.toNat z19.1) (List.drop 0 (List.take (Int.toNat z19.1) z19.2++List.replicate (List.length z19.2-(Int.toNat z19.1)) zC++List.drop ((Int.toNat z19.1)+(List.length z19.2-(Int.toNat z19.1))) z19.2))))))) ((z:Int),((z:Int)+1),a)=K (G9 b a):=by
 intro z hz hp hc
 refine ĝ (fun x:Int×Int×List Cmp=>∃i j:Nat,x.1=i∧x.2.1=j∧i<j∧j≤a.length∧x.2.2.length=a.length∧x.2.2.take i=G9 b (a.take j)∧x.2.2.drop j=a.drop j) (fun x=>a.length-x.2.1.toNat) ?_
  ⟨z,z+1,rfl,by simp,by omega,by omega,rfl,?_,rfl⟩
 ·rintro⟨x1,x2,s⟩ ⟨i,j,h1,h2,hij,hja,hl,ht,hd⟩;simp only at h1 h2 hl ht hd;subst h1 h2;rcases dg j a.length with hj|hj
  ·refine .inr ?_
   have hsj:s[j]?=some a[j]:=by
    have h3:(s.drop j)[0]?=(a.drop j)[0]?:=by rw[hd]
    rw[dV,dV] at h3;simpa[cF hj] using h3
   have hjs:j<s.length:=by omega
   have hos:î s=((s.length:Nat):Int):=rfl
   have hta:G9 b (a.take (j+1))=G9 b (a.take j)++if b.contains a[j].1 then[] else[a[j]]:=by
    rw[take_succ (cF hj),G9,G9,eN];congr 1
    cases h:b.contains a[j].1 with
    |true=>simp only[dT,h,dB,cV,if_false,eG,if_true]
    |false=>simp only[dT,h,fg,cV,if_false,eG,if_true]
   cases h:b.contains a[j].1 with
   |true =>
    refine⟨(i,(j:Int)+1,s),⟨i,j+1,rfl,by simp,by omega,by omega,hl,?_,?_⟩,by simp; omega,fun kn=>?_⟩
    ·rw[hta,h]; simpa using ht
    ·have:=congrArg (List.drop 1) hd;simpa[fA,hZ] using this
    ·try dsimp only
     unfold ε;rw[Ð hjs,hos,Į hjs,ô hsj,ī hb,À,h];simp only[Bool.not_true,é];rw[Ì hjs (by omega)]
   |false =>
    have his:i<s.length:=by omega
    refine⟨((i:Int)+1,(j:Int)+1,s.set i a[j]),⟨i+1,j+1,by simp,by simp,by omega,by omega,by simpa using hl,?_,?_⟩,by simp; omega,fun kn=>?_⟩
    ·show List.take (i+1) (s.set i a[j])=_;rw[hta,h,List.take_add_one,fH,gG (cG i),ht];simp[his]
    ·show List.drop (j+1) (s.set i a[j])=_;rw[gE (by omega)];have:=congrArg (List.drop 1) hd;simpa[fA,hZ] using this
    ·try dsimp only
     unfold ε;rw[Ð hjs,hos,Į hjs,ô hsj,ī hb,À,h];simp only[Bool.not_false,lQ];rw[Į his,ô (List.getElem?_eq_getElem his),Ì his (by omega),Ì hjs (by omega),Int.toNat_natCast]
  ·refine .inl fun kn=>?_
   have hje:j=s.length:=by omega
   try dsimp only
   unfold ε;rw[hje,Þ];dsimp only
   have g1:((ile (0:Int) (i:Int))&&(ile (i:Int) (î s)))=true:=by simp[ile,î]; omega
   rw[ċ g1]
   have g2:((ile (0:Int) (i:Int))&&(ile (i:Int) (î (List.take (Int.toNat (i:Int)) s++List.replicate (List.length s-(Int.toNat (i:Int))) zC++List.drop ((Int.toNat (i:Int))+(List.length s-(Int.toNat (i:Int)))) s))))=true:=by
    simp[ile,î]; omega
   rw[ċ g2,cT,gO,cQ,fc (by simp; omega),List.take_take,Nat.min_self,ht];rw[dU (by omega)]
 ·show List.take z a=G9 b (a.take (z+1));have hz':a[z]?=some a[z]:=cF hz;rw[take_succ hz',G9,eN];have hc:=hc _ hz'
  have:List.filter (fun c:Cmp=>!b.contains c.1) [a[z]]=[]:=by simp only[dT,hc,dB,cV,if_false,eG]
  rw[this,dh];exact hp.symm
end
def T2 (b:ë) (ids:List Int):ë×Int:=if ñ b≠0 then(Jr,ñ b) else(less b ids,0)
def chkK (b:ë) (y:List Cmp):Option (ë×Int):=Ä (ĕ (b.1,b.2.1,b.2.2.1,b.2.2.2.1,y,b.2.2.2.2.2)) fun r20=>ifb (ine r20 (0:Int)) (some ((((0:Int),(0:Int)),[],[],[],[],[]),r20)) (some ((b.1,b.2.1,b.2.2.1,b.2.2.2.1,y,b.2.2.2.2.2),(0:Int)))
def aftK (b:ë) (ids:List Int) (z10:Int):Option (ë×Int):=ifb (ieq z10 (-1:Int)) (chkK b b.2.2.2.2.1) (ck (z10+(1:Int)) fun n12=>Ë (fun(v21:Int×Int×List Cmp) kk25=>ε ids v21.1 v21.2.1 v21.2.2 (fun u22 u23 u24=>kk25 (u22,u23,u24)) (fun z19=>ä ((ile (0:Int) z19.1)&&(ile z19.1 (î z19.2))) (ä ((ile (0:Int) z19.1)&&(ile z19.1 (î (List.take (Int.toNat z19.1) z19.2++List.replicate (List.length z19.2-(Int.toNat z19.1)) zC++List.drop ((Int.toNat z19.1)+(List.length z19.2-(Int.toNat z19.1))) z19.2)))) (chkK b (List.take (Int.toNat z19.1) (List.drop 0 (List.take (Int.toNat z19.1) z19.2++List.replicate (List.length z19.2-(Int.toNat z19.1)) zC++List.drop ((Int.toNat z19.1)+(List.length z19.2-(Int.toNat z19.1))) z19.2))))))) (z10,n12,b.2.2.2.2.1))
set_option maxHeartbeats 1000000 in
def acT {b:ë} (h:In b) {ids:List Int} (hids:ids.length≤1000):wA b ids=some (T2 b ids):=by
 have hs:=h.size;have h1:=hs.gauges; have h2:=hs.uses; have h3:=hs.loans; have h4:=hs.compares; have h5:=hs.looks;unfold wA CD T2;rw[kE hs h.num,À]
 by_cases hc:ñ b=0
 ·have hg:=(ö b).1 hc;rw[Í (by simp[ine,hc]),Õ (by omega),Am.iff_true,Õ (by omega),Am.iff_true,Õ (by omega),Am.iff_true,Õ (by omega),Am.iff_true,Õ (by omega),Am.iff_true,if_neg (show ¬(ñ b≠0) from fun h=>h hc)]
  have fin:∀y:List Cmp,y=G9 ids b.2.2.2.2.1→chkK b y=some (less b ids,0):=by
   intro y hy;subst hy;unfold chkK;rw[show ĕ (b.1,b.2.1,b.2.2.1,b.2.2.2.1,G9 ids b.2.2.2.2.1,b.2.2.2.2.2)=ĕ (less b ids) from rfl,kE (aeF hs) h.num,À,(ö _).2 (hg.less ids)];rfl
  refine ĩ b.2.2.2.2.1 (fun _=>b.2.2.2.2.1) _ rfl (fun i d hi hd kn=>?_) (fun kn=>?_)
  ·dsimp only;unfold nq;obtain⟨p1,p2⟩:=hs.piles d (List.mem_of_getElem? hd)
   have e1:b.2.2.2.2.1.set i d=b.2.2.2.2.1:=by
    obtain⟨h,rfl⟩:=cI.1 hd;exact List.set_getElem_self h
   rw[Ð hi,Į hi,ô hd,Õ (by omega),Am.iff_true,Õ (by omega),Am.iff_true,Į hi,ô hd,cT];rw[show(d.1,d.2.1,d.2.2.1,d.2.2.2)=d from rfl,e1,Į hi,i9 hd,Ì hi (by omega)];rw[show(d.1,d.2.1,d.2.2.1,d.2.2.2.1,d.2.2.2.2)=d from rfl,e1]
  ·try dsimp only
   unfold nq;rw[Þ];dsimp only;refine Eq.trans (jr b.2.2.2.2.1 (fun c=>ids.contains c.1) (aftK b ids) (chkK b b.2.2.2.2.1) (fun i c hi hcc kn'=>?_) (fun kn'=>?_)) ?_
   ·try dsimp only
    unfold np;rw[Ð hi,Į hi,ô hcc,ī (by omega),À,Ì hi (by omega),Ď];rfl
   ·try dsimp only
    unfold np;rw[Þ];rfl
   ·cases hf:b.2.2.2.2.1.findIdx? (fun c=>ids.contains c.1) with
    |none =>
     refine fin _ ?_;rw[G9,fM.2];intro x hx;have:=dF.1 hf x hx;rw[this]; rfl
    |some z =>
     obtain⟨hz,hcz,hlt⟩:=dI.1 hf
     have h1:ieq (z:Int) (-1)=false:=by simp[ieq]
     try dsimp only
     unfold aftK;rw[Í h1,Ì hz (by omega),Zr (by omega) (by omega) (chkK b) z hz ?_ ?_]
     ·exact fin _ rfl
     ·rw[G9,fM];intro x hx;obtain⟨j,hj,rfl⟩:=cS.1 hx;rw[cZ] at hj;rw[eX];have:=hlt j (by omega);simpa using this
     ·intro c hcc;rw[cF hz] at hcc;rw[←Option.some.inj hcc]; exact hcz
 ·rw[Ø (by simp[ine,hc]),if_pos hc];rfl
section
variable {ρ α:Type}
def afe (z0:α) (K:List α→Option ρ) (z:Int×List α):Option ρ :=
 ä ((ile (0:Int) z.1)&&(ile z.1 (î z.2))) (ä ((ile (0:Int) z.1)&&(ile z.1 (î (List.take (Int.toNat z.1) z.2++List.replicate (List.length z.2-(Int.toNat z.1)) z0++List.drop ((Int.toNat z.1)+(List.length z.2-(Int.toNat z.1))) z.2))))
  (K (List.take (Int.toNat z.1) (List.drop 0 (List.take (Int.toNat z.1) z.2++List.replicate (List.length z.2-(Int.toNat z.1)) z0++List.drop ((Int.toNat z.1)+(List.length z.2-(Int.toNat z.1))) z.2)))))
def Zq (z0:α) (K:List α→Option ρ) {i:Nat} {s:List α} (h:i≤s.length):afe z0 K ((i:Int),s)=K (s.take i):=by
 unfold afe
 have g1:((ile (0:Int) (i:Int))&&(ile (i:Int) (î s)))=true:=by simp[ile,î]; omega
 dsimp only;rw[ċ g1]
 have g2:((ile (0:Int) (i:Int))&&(ile (i:Int) (î (List.take (Int.toNat (i:Int)) s++List.replicate (List.length s-(Int.toNat (i:Int))) z0++List.drop ((Int.toNat (i:Int))+(List.length s-(Int.toNat (i:Int)))) s))))=true:=by
  simp[ile,î]; omega
 rw[ċ g2,cT,gO,cQ,fc (by simp; omega),List.take_take,Nat.min_self]
def acB (p:α→Bool) {a:List α} {F:Int→Int→List α→(Int→Int→List α→Option ρ)→Option ρ} {k0:Int×List α→Option ρ} {K:List α→Option ρ}
 (hF:∀(i j:Nat) (s:List α) (x:α),s.length=a.length→i<j→j<s.length→s[j]?=some x→x∈a→∀kn,F i j s kn=if p x then kn ((i:Int)+1) ((j:Int)+1) (s.set i x) else kn i ((j:Int)+1) s)
 (hE:∀(i:Nat) (s:List α) kn,i≤s.length→s.length=a.length→F i s.length s kn=k0 ((i:Int),s)) (hk:∀(i:Nat) (s:List α),i≤s.length→k0 ((i:Int),s)=K (s.take i))
 {z:Nat} (hz:z<a.length) (hp:∀x∈a.take z,p x=true) (hc:∀c,a[z]?=some c→p c=false) :
 Ë (fun(v:Int×Int×List α) kk=>F v.1 v.2.1 v.2.2 (fun x y w=>kk (x,y,w))) ((z:Int),((z:Int)+1),a)=K (a.filter p):=by
 refine ĝ (fun x:Int×Int×List α=>∃i j:Nat,x.1=i∧x.2.1=j∧i<j∧j≤a.length∧x.2.2.length=a.length∧x.2.2.take i=(a.take j).filter p∧x.2.2.drop j=a.drop j) (fun x=>a.length-x.2.1.toNat) ?_
  ⟨z,z+1,rfl,by simp,by omega,by omega,rfl,?_,rfl⟩
 ·rintro⟨x1,x2,s⟩ ⟨i,j,h1,h2,hij,hja,hl,ht,hd⟩;simp only at h1 h2 hl ht hd;subst h1 h2;rcases dg j a.length with hj|hj
  ·refine .inr ?_
   have hsj:s[j]?=some a[j]:=by
    have h3:(s.drop j)[0]?=(a.drop j)[0]?:=by rw[hd]
    rw[dV,dV] at h3;simpa[cF hj] using h3
   have hta:(a.take (j+1)).filter p=(a.take j).filter p++if p a[j] then[a[j]] else[]:=by
    rw[take_succ (cF hj),eN];congr 1
    cases h:p a[j]<;>simp[h]
   have hdd:s.drop (j+1)=a.drop (j+1):=by
    have:=congrArg (List.drop 1) hd;simpa[fA,hZ] using this
   have hf:=hF i j s a[j] hl hij (by omega) hsj (fe hj)
   cases h:p a[j] with
   |false =>
    refine⟨(i,(j:Int)+1,s),⟨i,j+1,rfl,by simp,by omega,by omega,hl,?_,hdd⟩,by simp; omega,fun kn=>by dsimp only; rw[hf,h]; rfl⟩;rw[hta,h]; simpa using ht
   |true =>
    have his:i<s.length:=by omega
    refine⟨((i:Int)+1,(j:Int)+1,s.set i a[j]),⟨i+1,j+1,by simp,by simp,by omega,by omega,by simpa using hl,?_,?_⟩,by simp; omega,fun kn=>by dsimp only; rw[hf,h]; rfl⟩
    ·show List.take (i+1) (s.set i a[j])=_;rw[hta,h,List.take_add_one,fH,gG (cG i),ht];simp[his]
    ·show List.drop (j+1) (s.set i a[j])=_;rw[gE (by omega)];exact hdd
  ·refine .inl fun kn=>?_
   have hje:j=s.length:=by omega
   try dsimp only
   rw[hje,hE i s _ (by omega) hl,hk i s (by omega),ht,dU (by omega)]
 ·show List.take z a=(a.take (z+1)).filter p;have hz':a[z]?=some a[z]:=cF hz;rw[take_succ hz',eN,fM.2 hp];simp[hc _ hz']
def Zp (p:α→Bool) {a:List α} {F1:Int→(Int→Option ρ)→Option ρ} {F:Int→Int→List α→(Int→Int→List α→Option ρ)→Option ρ} {k0:Int×List α→Option ρ} {K:List α→Option ρ} {kf:Int→Option ρ} {kend:Option ρ}
 (h1:∀(i:Nat) (x:α),i<a.length→a[i]?=some x→∀kn,F1 i kn=if !p x then kf i else kn ((i:Int)+1)) (h1e:∀kn,F1 a.length kn=kend) (hend:kend=K a)
 (hkf:∀z:Nat,z<a.length→kf z=Ë (fun(v:Int×Int×List α) kk=>F v.1 v.2.1 v.2.2 (fun x y w=>kk (x,y,w))) ((z:Int),((z:Int)+1),a))
 (hF:∀(i j:Nat) (s:List α) (x:α),s.length=a.length→i<j→j<s.length→s[j]?=some x→x∈a→∀kn,F i j s kn=if p x then kn ((i:Int)+1) ((j:Int)+1) (s.set i x) else kn i ((j:Int)+1) s)
 (hE:∀(i:Nat) (s:List α) kn,i≤s.length→s.length=a.length→F i s.length s kn=k0 ((i:Int),s)) (hk:∀(i:Nat) (s:List α),i≤s.length→k0 ((i:Int),s)=K (s.take i)):Ë F1 0=K (a.filter p):=by
 rw[jr a (fun x=>!p x) kf kend h1 h1e]
 cases hf:a.findIdx? (fun x=>!p x) with
 |none =>
  dsimp only;rw[hend,List.filter_eq_self.2];intro x hx;have:=List.findIdx?_eq_none_iff.1 hf x hx;simpa using this
 |some z =>
  obtain⟨hz,hcz,hlt⟩:=List.findIdx?_eq_some_iff_getElem.1 hf;dsimp only;rw[hkf z hz];refine acB p hF hE hk hz (fun x hx=>?_) (fun c hc=>?_)
  ·obtain⟨j,hj,rfl⟩:=cS.1 hx;rw[cZ] at hj;rw[eX];have:=hlt j (by omega);simpa using this
  ·rw[cF hz] at hc;cases hc;simpa using hcz
end
def mZ (m:ŕ) (w:Way):Bool:=kZ (Ζ (trP m w)) ((Ê (trP m w)).length+1)
def iZ (m:ŕ):List Way:=(ĥ m.2).filter (mZ m)
def Qs (m:ŕ):Way×Bool:=match (ĥ m.2).find? (mZ m) with|some w=>(w,true)|none=>([],false)
section
variable {m:ŕ} {w:Way} {ρ:Type}
def In_tr (h:MOk m) (hw:Ħ m.2 w):In (trP m w):=⟨(oA h hw).size,h.in_.num⟩
def NF (h:MOk m) (hw:Ħ m.2 w):iW (trP m w)=some ((((Ê (trP m w)).length:Int)+1,Ζ (trP m w)),C5 (trP m w),0):=by
 rw[Xx (In_tr h hw),T4,if_neg (by simp[(ö _).2 (oA h hw)])]
def qC (h:MOk m) (hw:Ħ m.2 w):Ų m w=some (mZ m w):=by
 unfold Ų ya;rw[nz h hw,À,NF h hw,À];have:=T5 (oA h hw).sys;simp only[Int.natCast_add,Int.cast_ofNat_Int] at this;rw[this]; rfl
def pP {i:Nat} (hi:(ĥ m.2)[i]?=some w):Ħ m.2 w:=ny.1 (cO hi)
def qS (h:MOk m):(ĥ m.2).length≤150:=by rw[adc]; exact h.prod
def aeR (h:MOk m):Fe m=some (iZ m):=by
 unfold Fe RB;have hl:=TJ h;have hl2:=qS h;have hm:((((m.1.1.1,m.1.1.2),m.1.2.1,m.1.2.2.1,m.1.2.2.2.1,m.1.2.2.2.2.1,m.1.2.2.2.2.2),m.2):ŕ)=m:=rfl;rw[afp h,À,JN (fun v y kn hv=>by unfold Cf; rw[ċ (Õ (by simp; omega))]) (by simp; omega),List.nil_append,Uq h,À]
 refine Zp (a:=ĥ m.2) (mZ m) (K:=fun l=>some l) (k0:=afe [] fun l=>some l) (kf:=fun z6=>ifb (ieq z6 (-1:Int)) (some (ĥ m.2)) (ck (z6+(1:Int)) fun n7=>Ë (fun(v15:Int×Int×List Way) kk19=>mH m.1.1.1 m.1.1.2 m.1.2.1 m.1.2.2.1 m.1.2.2.2.1 m.1.2.2.2.2.1 m.1.2.2.2.2.2 m.2 v15.1 v15.2.1 v15.2.2 (fun u16 u17 u18=>kk19 (u16,u17,u18)) (afe [] fun l=>some l)) (z6,n7,ĥ m.2)))
  (F:=fun a b c kn=>mH m.1.1.1 m.1.1.2 m.1.2.1 m.1.2.2.1 m.1.2.2.2.1 m.1.2.2.2.2.1 m.1.2.2.2.2.2 m.2 a b c kn (afe [] fun l=>some l)) (kend:=some (ĥ m.2)) (fun i x hi hx kn=>?_) (fun kn=>?_) rfl (fun z hz=>?_) (fun i j s x hs hij hj hx hxa kn=>?_) (fun i s kn hi hs=>?_) (fun i s hi=>Zq _ _ hi)
 ·try dsimp only
  unfold vw;rw[Ð hi,Į hi,ô hx,hm,qC h (pP hx),À,Ì hi (by omega),Ď];rfl
 ·try dsimp only
  unfold vw;rw[Þ]
 ·rw[Í (by simp[ieq]),Ì hz (by omega)]
 ·try dsimp only
  unfold mH;rw[Ð hj,show î s=((s.length:Nat):Int) from rfl,Į hj,ô hx,hm,qC h (ny.1 hxa),À];cases mZ m x
  ·simp only[fg,dB,é,cV,if_false];rw[Ì hj (by omega)]
  ·simp only[fg,dB,lQ,if_true];rw[Į (by omega),ô (cF (by omega)),Ì (show i<s.length by omega) (by omega),Ì hj (by omega),cT]
 ·try dsimp only
  unfold mH;rw[Þ]
def sH (h:MOk m):ā m=some (Qs m):=by
 unfold ā vx;have hl2:=qS h;have hm:((((m.1.1.1,m.1.1.2),m.1.2.1,m.1.2.2.1,m.1.2.2.2.1,m.1.2.2.2.2.1,m.1.2.2.2.2.2),m.2):ŕ)=m:=rfl;rw[JX h,À];refine Eq.trans (mS (ĥ m.2) (fun _ w=>if mZ m w then some (w,true) else none) (fun z=>some (z.1,z.2)) (some ([],false)) (fun i x hi hx kn=>?_) (fun kn=>?_)) ?_
 ·try dsimp only
  unfold kv;rw[Ð hi,È hx,hm,qC h (pP hx),À,Ì hi (by omega),Ď]
  cases mZ m x<;>rfl
 ·try dsimp only
  unfold kv;rw[Þ]
 ·rw[Ij,Qs]
  have key:∀l:List Way,l.findSome? (fun w=>if mZ m w then some (w,true) else none)=(l.find? (mZ m)).map fun w=>(w,true):=by
   intro l
   induction l with
   |nil=>rfl
   |cons x l ih =>
    rw[gb,fF]
    cases h:mZ m x with
    |true=>rfl
    |false=>exact ih
  rw[key]
  cases(ĥ m.2).find? (mZ m)<;>rfl
def oT (m:ŕ):Bool:=(ĥ m.2).any (mZ m)
def wt (m:ŕ):(Qs m).2=oT m:=by
 unfold Qs oT
 cases h:(ĥ m.2).find? (mZ m) with
 |none =>
  symm
  rw[dM]
  exact fun x hx=>by simpa using(ej.1 h) x hx
 |some w =>
  symm
  rw[dj];exact⟨w,fC h,gj h⟩
def All_ok (hs:In m.1) (hn:m.2.length≤1000):Tz m=some (if ļ m≠0 then([],ļ m) else(iZ m,0)):=by
 unfold Tz Yy;rw[nw hs hn,À]
 by_cases hc:ļ m=0
 ·rw[Í (by simp[ine,hc]),if_neg (by simp[hc]),aeR ((Ŋ m).1 hc)]; rfl
 ·rw[Ø (by simp[ine,hc]),if_pos hc]
def Y5 (m:ŕ):Way×Int:=if ļ m≠0 then([],ļ m) else if oT m then((Qs m).1,0) else([],5)
def agk (hs:In m.1) (hn:m.2.length≤1000):Fh m=some (Y5 m):=by
 unfold Fh Lm Y5;rw[nw hs hn,À]
 by_cases hc:ļ m=0
 ·rw[Í (by simp[ine,hc]),if_neg (by simp[hc]),sH ((Ŋ m).1 hc),À,wt]
  cases oT m<;>rfl
 ·rw[Ø (by simp[ine,hc]),if_pos hc]
def ajs (m:ŕ) (p:Cmp→Bool):ŕ:=((m.1.1,m.1.2.1,m.1.2.2.1,m.1.2.2.2.1,m.1.2.2.2.2.1.filter p,m.1.2.2.2.2.2),m.2)
def tD (m:ŕ) (ids:List Int):ŕ:=ajs m fun c=>ids.contains c.1
def Yb (hn:m.1.2.2.2.2.1.length≤1000) {ids:List Int} (hi:ids.length≤1000000):zO m ids=some (tD m ids):=by
 unfold zO Ru;rw[ċ (Õ (by omega))]
 refine Zp (a:=m.1.2.2.2.2.1) (fun c=>ids.contains c.1) (K:=fun l=>some ((m.1.1,m.1.2.1,m.1.2.2.1,m.1.2.2.2.1,l,m.1.2.2.2.2.2),m.2)) (k0:=afe zC fun l=>some ((m.1.1,m.1.2.1,m.1.2.2.1,m.1.2.2.2.1,l,m.1.2.2.2.2.2),m.2))
  (kf:=fun z4=>ifb (ieq z4 (-1:Int)) (some m) (ck (z4+(1:Int)) fun n5=>Ë (fun(v13:Int×Int×List Cmp) kk17=>mG ids v13.1 v13.2.1 v13.2.2 (fun u14 u15 u16=>kk17 (u14,u15,u16)) (afe zC fun l=>some ((m.1.1,m.1.2.1,m.1.2.2.1,m.1.2.2.2.1,l,m.1.2.2.2.2.2),m.2))) (z4,n5,m.1.2.2.2.2.1)))
  (F:=fun a b c kn=>mG ids a b c kn (afe zC fun l=>some ((m.1.1,m.1.2.1,m.1.2.2.1,m.1.2.2.2.1,l,m.1.2.2.2.2.2),m.2))) (kend:=some m) (fun i x hi' hx kn=>?_) (fun kn=>?_) rfl (fun z hz=>?_) (fun i j s x hs hij hj hx hxa kn=>?_) (fun i s kn hi hs=>?_) (fun i s hi=>Zq _ _ hi)
 ·try dsimp only
  unfold vv;rw[Ð hi',Į hi',ô hx,ī hi,À,Ì hi' (by omega),Ď];rfl
 ·try dsimp only
  unfold vv;rw[Þ]
 ·rw[Í (by simp[ieq]),Ì hz (by omega)]
 ·try dsimp only
  unfold mG;rw[Ð hj,show î s=((s.length:Nat):Int) from rfl,Į hj,ô hx,ī hi,À];cases ids.contains x.1
  ·simp only[fg,dB,é,cV,if_false];rw[Ì hj (by omega)]
  ·simp only[fg,dB,lQ,if_true];rw[Į (by omega),ô (cF (by omega)),Ì (show i<s.length by omega) (by omega),Ì hj (by omega),cT]
 ·try dsimp only
  unfold mG;rw[Þ]
end
section
variable {b:ë}
def JH (h:Ł b) (g:ò) {f t u:Int} (h1:f≤t) (h2:t≤u):kL b g f u=kL b g f t+kL b g t u:=by
 obtain⟨n,rfl⟩:∃n:Nat,u=t+n:=⟨(u-t).toNat,by omega⟩;clear h2
 induction n with
 |zero=>simp[WF]
 |succ n ih =>
  have e:t+((n+1:Nat):Int)=(t+n)+1:=by omega
  rw[e,WE h g (show f≤t+(n:Int) by omega),WE h g (show t≤t+(n:Int) by omega),ih];omega
def CE (h:Ł b) {g:ò} (hg:g∈b.2.1) {f t:Int} (hf:0≤f):0≤kL b g f t:=(wm h hg hf).1
def ix (b:ë) (id d:Int):Int:=match jg (Ê b) id d with|some j=>(j:Int)+1|none=>0
def qZ (h:Ł b) {i:Nat} {g:ò} (hg:b.2.1[i]?=some g) {k:Nat} {d:Int} (hk:(ß b g)[k]?=some d):ix b g.1 d=(off b i:Int)+k+1:=by
 unfold ix;rw[Rg h hg hk];simp only;omega
structure vd (b:ë) (p:Int→Int) (g:ò):Prop where
 hi:p (ix b g.1 g.2.1)≤p 0+(g.2.2.1+g.2.2.2.1.2)
 lo:p 0+(g.2.2.1+g.2.2.2.1.1)≤p (ix b g.1 g.2.1)
 down:∀d e,d∈ß b g→e∈ß b g→d≤e→p (ix b g.1 e)≤p (ix b g.1 d)
 loss:∀d e,d∈ß b g→e∈ß b g→d≤e→p (ix b g.1 d)≤p (ix b g.1 e)+kL b g d e
def EY (h:Ł b) {i:Nat} {g:ò} (hg:b.2.1[i]?=some g) {p:Int→Int}:(∀l∈ň b g,p l.2.1≤p l.1+l.2.2)↔vd b p g:=by
 have hgm:=cO hg;obtain⟨tl,htl⟩:=Nd h hgm
 have h0:ix b g.1 g.2.1=(off b i:Int)+1:=by
  have:=qZ h hg (k:=0) (d:=g.2.1) (by rw[htl]; rfl);rw[this];omega
 constructor
 ·intro hl;have e1:=hl _ ((ă h hg).2 (.inl rfl));have e2:=hl _ ((ă h hg).2 (.inr (.inl rfl)));simp only at e1 e2
  have step:∀(k:Nat) (d e:Int),(ß b g)[k]?=some d→(ß b g)[k+1]?=some e→p (ix b g.1 e)≤p (ix b g.1 d)∧p (ix b g.1 d)≤p (ix b g.1 e)+kL b g d e:=by
   intro k d e hd he;have a1:=hl _ ((ă h hg).2 (.inr (.inr ⟨k,d,e,hd,he,.inl rfl⟩)));have a2:=hl _ ((ă h hg).2 (.inr (.inr ⟨k,d,e,hd,he,.inr rfl⟩)));simp only at a1 a2;rw[qZ h hg hd,qZ h hg he]
   have e3:(off b i:Int)+((k+1:Nat):Int)+1=(off b i:Int)+k+2:=by omega
   rw[e3];exact⟨by omega,a2⟩
  have pair:∀(n k:Nat) (d e:Int),(ß b g)[k]?=some d→(ß b g)[k+n]?=some e→p (ix b g.1 e)≤p (ix b g.1 d)∧p (ix b g.1 d)≤p (ix b g.1 e)+kL b g d e:=by
   intro n
   induction n with
   |zero =>
    intro k d e hd he;rw[fG,hd] at he;cases he;rw[WF g (dP _)];omega
   |succ n ih =>
    intro k d e hd he;have hlt:=(cI.1 he).1;have hm:(ß b g)[k+n]?=some ((ß b g)[k+n]'(by omega)):=cF (by omega);obtain⟨a1,a2⟩:=ih k d _ hd hm;obtain⟨a3,a4⟩:=step (k+n) _ e hm he
    have o1:d≤(ß b g)[k+n]'(by omega):=by
     obtain⟨hkl,hkd⟩:=cI.1 hd;rcases gh n with rfl|hn
     ·rw[←hkd]; exact Int.le_of_eq (by congr 1)
     ·have:=(dm.1 (tj b g)) k (k+n) hkl (by omega) (by omega);rw[hkd] at this; omega
    have o2:(ß b g)[k+n]'(by omega)≤e:=by
     obtain⟨hel,hee⟩:=cI.1 he;have:=(dm.1 (tj b g)) (k+n) (k+(n+1)) (by omega) hel (by omega);rw[hee] at this; omega
    have:=JH h g o1 o2;omega
  have any:∀d e,d∈ß b g→e∈ß b g→d≤e→p (ix b g.1 e)≤p (ix b g.1 d)∧p (ix b g.1 d)≤p (ix b g.1 e)+kL b g d e:=by
   intro d e hd he hde;obtain⟨k,hk,rfl⟩:=cS.1 hd;obtain⟨m,hm,rfl⟩:=cS.1 he
   have hkm:k≤m:=by
    rcases dg m k with hlt|hge
    ·have:=(dm.1 (tj b g)) m k hm hk hlt; omega
    ·exact hge
   exact pair (m-k) k _ _ (cF hk) (by rw[show k+(m-k)=m by omega]; exact cF hm)
  exact⟨by rw[h0]; omega,by rw[h0]; omega,fun d e hd he hde=>(any d e hd he hde).1,fun d e hd he hde=>(any d e hd he hde).2⟩
 ·intro hf l hl;rcases(ă h hg).1 hl with rfl|rfl|⟨k,d,e,hd,he,rfl|rfl⟩
  ·have:=hf.hi; rw[h0] at this; simp only; omega
  ·have:=hf.lo; rw[h0] at this; simp only; omega
  ·have hde:d≤e:=by
    obtain⟨a1,a2⟩:=cI.1 hd;obtain⟨a3,a4⟩:=cI.1 he;have:=(dm.1 (tj b g)) k (k+1) a1 a3 (by omega);rw[a2,a4] at this; omega
   have:=hf.down d e (cO hd) (cO he) hde;rw[qZ h hg hd,qZ h hg he] at this
   have e3:(off b i:Int)+((k+1:Nat):Int)+1=(off b i:Int)+k+2:=by omega
   rw[e3] at this;simp only;omega
  ·have hde:d≤e:=by
    obtain⟨a1,a2⟩:=cI.1 hd;obtain⟨a3,a4⟩:=cI.1 he;have:=(dm.1 (tj b g)) k (k+1) a1 a3 (by omega);rw[a2,a4] at this; omega
   have:=hf.loss d e (cO hd) (cO he) hde;rw[qZ h hg hd,qZ h hg he] at this
   have e3:(off b i:Int)+((k+1:Nat):Int)+1=(off b i:Int)+k+2:=by omega
   rw[e3] at this;simp only;exact this
def adU (h:Ł b) {p:Int→Int}:Pot (Ζ b) p↔(∀g∈b.2.1,vd b p g)∧∀c∈b.2.2.2.2.1,p (cx b c)≤p (cy b c)+(qH b c).2∧p (cy b c)+(qH b c).1≤p (cx b c):=by
 constructor
 ·intro hp;refine⟨fun g hg=>?_,fun c hc=>?_⟩
  ·obtain⟨i,hi,rfl⟩:=cS.1 hg;exact(EY h (cF hi)).1 fun l hl=>hp l.1 l.2.1 l.2.2 (iT.2 (.inl ⟨i,_,cF hi,hl⟩))
  ·have a1:=hp _ _ _ (iT.2 (.inr ⟨c,hc,.inl rfl⟩));have a2:=hp _ _ _ (iT.2 (.inr ⟨c,hc,.inr rfl⟩));omega
 ·rintro⟨hg,hc⟩ u v m hl;rcases iT.1 hl with⟨i,g,hig,hl⟩|⟨c,hcm,hl⟩
  ·exact(EY h hig).2 (hg g (cO hig)) (u,v,m) hl
  ·obtain⟨a1,a2⟩:=hc c hcm;rcases hl with hl|hl
   ·obtain⟨rfl,rfl,rfl⟩:u=cy b c∧v=cx b c∧m=(qH b c).2:=by simpa using hl
    exact a1
   ·obtain⟨rfl,rfl,rfl⟩:u=cx b c∧v=cy b c∧m = -(qH b c).1:=by simpa using hl
    omega
end
def aig:List Int→Int
 |[]=>0
 |[a]=>a
 |a::b::t=>max a (aig (b::t))
def Vf:∀{l:List Int},l≠[]→(∀a∈l,a≤aig l)∧aig l∈l
 |[],h=>absurd rfl h
 |[a],_=>⟨fun x hx=>by rw[cP] at hx; rw[hx]; exact dP _,by simp[aig]⟩
 |a::b::t,_=>by
  obtain⟨h1,h2⟩:=Vf (l:=b::t) (by simp);have e:aig (a::b::t)=max a (aig (b::t)):=rfl;rw[e];constructor
  ·intro x hx;rcases cN.1 hx with rfl|hx
   ·omega
   ·have:=h1 x hx; omega
  ·rcases Int.le_total a (aig (b::t)) with h|h
   ·rw[Int.max_eq_right h]; exact du _ h2
   ·rw[Int.max_eq_left h]; exact List.mem_cons_self
section
variable {b:ë}
def adS (b:ë) (f:Int→Int→Int) (z:Int) (v:Int):Int:=if v=0 then z else match (Ê b)[(v-1).toNat]? with|some n=>f n.1 n.2|none=>0
def Kg (f:Int→Int→Int) (z:Int):adS b f z 0=z:=by unfold adS; rw[if_pos rfl]
def UH (h:Ł b) (f:Int→Int→Int) (z:Int) {g:ò} (hg:g∈b.2.1) {d:Int} (hd:d∈ß b g):adS b f z (ix b g.1 d)=f g.1 d:=by
 obtain⟨i,hi,rfl⟩:=List.mem_iff_getElem.1 hg;obtain⟨k,hk,rfl⟩:=List.mem_iff_getElem.1 hd;have hgi:=List.getElem?_eq_getElem hi;have hdk:=List.getElem?_eq_getElem hk;rw[qZ h hgi hdk];unfold adS
 have e:((off b i:Int)+k+1-1).toNat=off b i+k:=by omega
 rw[if_neg (by omega),e,JC hgi hdk]
def Xn (b:ë) (l:List Int) (d:Int):Int:=match l with|[]=>0|x::_=>ix b x d
def abp (l:List Int) (d:Int):atP (Ê b) l d=Xn b l d:=by
 unfold atP Xn ix
 cases l<;>rfl
def afk (c:Cmp):cx b c=Xn b (û c.2.2.1 c.2.2.2.1) c.2.1:=abp _ _
def afj (c:Cmp):cy b c=Xn b (û c.2.2.2.1 c.2.2.1) c.2.1:=abp _ _
def aaN (h:Ł b) {c:Cmp} (hc:c∈b.2.2.2.2.1) {x:Int} (hx:x∈û c.2.2.1 c.2.2.2.1∨x∈û c.2.2.2.1 c.2.2.1):∃g∈b.2.1,g.1=x∧c.2.1∈ß b g:=by
 have hx':(x∈c.2.2.1∧x∉c.2.2.2.1)∨(x∈c.2.2.2.1∧x∉c.2.2.1):=by
  rcases hx with hx|hx
  ·exact .inl (oq.1 hx)
  ·exact .inr (oq.1 hx)
 have hm:x∈c.2.2.1++c.2.2.2.1:=by rw[cM]; exact hx'.imp (·.1) (·.1)
 obtain⟨⟨g,hg,_⟩,_⟩:=h.pile hc hm;obtain⟨hgm,hid⟩:=Τ hg;refine⟨g,hgm,hid,Β.2 (.inr (.inl ⟨c,hc,?_,rfl⟩))⟩;rw[hid];intro he;rw[gI,fu,fu] at he;rcases hx' with⟨a,e⟩|⟨a,e⟩
 ·exact e (he.1 a)
 ·exact e (he.2 a)
def fill (b:ë) (p:Int→Int) (g:ò) (d:Int):Int:=aig ((ß b g).map fun e=>if d≤e then p (ix b g.1 e) else p (ix b g.1 e)-kL b g e d)
def M4 {p:Int→Int} {g:ò} (d:Int):(∀e∈ß b g,(if d≤e then p (ix b g.1 e) else p (ix b g.1 e)-kL b g e d)≤fill b p g d)∧∃e∈ß b g,fill b p g d=if d≤e then p (ix b g.1 e) else p (ix b g.1 e)-kL b g e d:=by
 have hne:((ß b g).map fun e=>if d≤e then p (ix b g.1 e) else p (ix b g.1 e)-kL b g e d)≠[]:=by
  intro h;have:=List.map_eq_nil_iff.1 h;have h2:=pu (b:=b) g;rw[this] at h2;cases h2
 obtain⟨h1,h2⟩:=Vf hne;refine⟨fun e he=>h1 _ (df.2 ⟨e,he,rfl⟩),?_⟩;obtain⟨e,he,hx⟩:=df.1 h2;exact⟨e,he,hx.symm⟩
def aa4 (h:Ł b) {p:Int→Int} {g:ò} (hg:g∈b.2.1) (hf:vd b p g) {d:Int} (hd:d∈ß b g):fill b p g d=p (ix b g.1 d):=by
 obtain⟨h1,e,he,h2⟩:=M4 (b:=b) (p:=p) (g:=g) d;have h3:=h1 d hd;rw[if_pos (dP _)] at h3
 have h4:fill b p g d≤p (ix b g.1 d):=by
  rw[h2]
  split
  ·rename_i hde;exact hf.down d e hd he hde
  ·rename_i hde;have:=hf.loss e d he hd (by omega);omega
 omega
def WZ (h:Ł b) {p:Int→Int} {g:ò} (hg:g∈b.2.1) (hf:vd b p g) {d e:Int} (h0:g.2.1≤d) (hde:d≤e):fill b p g e≤fill b p g d∧fill b p g d≤fill b p g e+kL b g d e:=by
 obtain⟨a1,x,hx,a2⟩:=M4 (b:=b) (p:=p) (g:=g) d;obtain⟨b1,y,hy,b2⟩:=M4 (b:=b) (p:=p) (g:=g) e;have hm:=(h.gaugeR hg).2.2.2.2.1;have hl:=CE h hg (f:=d) (t:=e) (by omega);have dx:=h.day hg hx;have dy:=h.day hg hy;constructor
 ·have q:=a1 y hy;rw[b2]
  by_cases c1:e≤y
  ·rw[if_pos c1];rw[if_pos (by omega)] at q;exact q
  ·rw[if_neg c1]
   by_cases c2:d≤y
   ·rw[if_pos c2] at q;have:=CE h hg (f:=y) (t:=e) dy.2.1;omega
   ·rw[if_neg c2] at q;have:=JH h g (f:=y) (t:=d) (u:=e) (by omega) hde;omega
 ·have q:=b1 x hx;rw[a2]
  by_cases c1:d≤x
  ·rw[if_pos c1]
   by_cases c2:e≤x
   ·rw[if_pos c2] at q;omega
   ·rw[if_neg c2] at q;have:=JH h g (f:=d) (t:=x) (u:=e) c1 (by omega);have:=CE h hg (f:=d) (t:=x) (by omega);omega
  ·rw[if_neg c1];rw[if_neg (by omega)] at q;have:=JH h g (f:=x) (t:=d) (u:=e) (by omega) hde;omega
end
section
variable {b:ë} {c:Cmp}
def acQ {b':ë} (h':Ł b') {l:List Int} {day:Int} (f:Int→Int→Int) (z:Int) (hl:∀x∈l,∃g∈b'.2.1,g.1=x∧day∈ß b' g):adS b' f z (Xn b' l day)=match l with|[]=>z|x::_=>f x day:=by
 unfold Xn
 cases l with
 |nil=>exact Kg f z
 |cons x t =>
  obtain⟨g,hg,rfl,hd⟩:=hl x (by simp);exact UH h' f z hg hd
end
section
variable {L:List Lk} {N:Nat}
def Wl.app {u v:Int} {vs:List Int} {d:Int} (h1:Wl L (fun x=>x=u) vs v d) {ws:List Int} {w e:Int} (h2:Wl L (fun x=>x=v) ws w e):∃xs,Wl L (fun x=>x=u) xs w (d+e):=by
 induction h2 with
 |nil h=>subst h; exact⟨vs,by rw[gJ]; exact h1⟩
 |step hw hx ih =>
  obtain⟨xs,hi⟩:=ih;have:=Wl.step hi hx;rw[Int.add_assoc] at this;exact⟨_,this⟩
def dst (L:List Lk) (N:Nat) (s t:Int):Int:=gv (zk L N s) t
def afa (h:jA L N) (ht:ZK L N) (ho:kZ L N=true) {s t:Int} (hs:0≤s∧s<N) (hv:0≤t∧t<N):dst L N s t≤9007199254740992:=by
 have h2:=h.n60;obtain⟨p,hp⟩:=(jX h.links (by omega)).1 ho;obtain⟨vs,d,hw,hd⟩:=ht.from' s hs.1 hs.2;obtain⟨ws,e,hx,he⟩:=ht.to t hv.1 hv.2;obtain⟨xs,hy⟩:=Wl.app hw hx;have:=(CQ h.links (by omega) hp hs).low t xs _ (aid.2 hy);unfold dst;omega
def dst_ne (h:jA L N) (ht:ZK L N) (ho:kZ L N=true) {s t:Int} (hs:0≤s∧s<N) (hv:0≤t∧t<N):dst L N s t≠Ŝ:=by
 have:=afa h ht ho hs hv;unfold Ŝ;omega
def TD (h:jA L N) (ht:ZK L N) (ho:kZ L N=true) {s t:Int} (hs:0≤s∧s<N) (hv:0≤t∧t<N) {p:Int→Int} (hp:Pot L p):p t-p s≤dst L N s t:=by
 have h2:=h.n60;obtain⟨vs,hw⟩:=(CQ h.links (by omega) hp hs).att t hv.1 hv.2 (dst_ne h ht ho hs hv);obtain⟨u,hu,hx⟩:=(aid.1 hw).pot hp;subst hu;exact hx
def ae9 (h:jA L N) (ht:ZK L N) (ho:kZ L N=true) {x y:Int} (hx:0≤x∧x<N) (hy:0≤y∧y<N) : -(dst L N x y)≤dst L N y x:=by
 have h2:=h.n60;obtain⟨p,hp⟩:=(jX h.links (by omega)).1 ho;have a1:=TD h ht ho hx hy hp;have a2:=TD h ht ho hy hx hp;omega
def dst_bd (h:jA L N) (ht:ZK L N) (ho:kZ L N=true) {s t:Int} (hs:0≤s∧s<N) (hv:0≤t∧t<N) : -9007199254740992≤dst L N s t∧dst L N s t≤9007199254740992:=by
 have a1:=afa h ht ho hs hv;have a2:=afa h ht ho hv hs;have a3:=ae9 h ht ho hv hs;omega
end
def adD (f:Int→Int→Int) (z:Int) (l:List Int) (d:Int):Int:=match l with|[]=>z|x::_=>f x d
def acA (f:Int→Int→Int) (z:Int) (c:Cmp):Int:=adD f z (û c.2.2.1 c.2.2.2.1) c.2.1-adD f z (û c.2.2.2.1 c.2.2.1) c.2.1
structure ajQ (b:ë) (f:Int→Int→Int) (z:Int) (g:ò):Prop where
 hi:f g.1 g.2.1≤z+(g.2.2.1+g.2.2.2.1.2)
 lo:z+(g.2.2.1+g.2.2.2.1.1)≤f g.1 g.2.1
 down:∀d e,g.2.1≤d→d≤e→f g.1 e≤f g.1 d
 loss:∀d e,g.2.1≤d→d≤e→f g.1 d≤f g.1 e+kL b g d e
structure Hist (b:ë) (f:Int→Int→Int) (z:Int):Prop where
 gauge:∀g∈b.2.1,ajQ b f z g
 cmp:∀c∈b.2.2.2.2.1,(qH b c).1≤acA f z c∧acA f z c≤(qH b c).2
def ae3 {b:ë} (h:Ł b) {p:Int→Int} (hg:∀g∈b.2.1,vd b p g):∃f:Int→Int→Int,(∀g∈b.2.1,ajQ b f (p 0) g)∧∀g∈b.2.1,∀d∈ß b g,f g.1 d=p (ix b g.1 d):=by
 let f:Int→Int→Int:=fun id d=>match ø b id with|some g=>fill b p g d|none=>0
 have hfv:∀g∈b.2.1,∀d,f g.1 d=fill b p g d:=fun g hgm d=>by
  show(match ø b g.1 with|some g=>fill b p g d|none=>0)=_;rw[qA h.ids hgm]
 refine⟨f,fun g hgm=>?_,fun g hgm d hd=>by rw[hfv g hgm]; exact aa4 h hgm (hg g hgm) hd⟩;have gf:=hg g hgm
 have e0:f g.1 g.2.1=p (ix b g.1 g.2.1):=by rw[hfv g hgm]; exact aa4 h hgm gf (pu g)
 refine⟨by rw[e0]; exact gf.hi,by rw[e0]; exact gf.lo,fun d e h0 hde=>?_,fun d e h0 hde=>?_⟩
 ·rw[hfv g hgm,hfv g hgm];exact(WZ h hgm gf h0 hde).1
 ·rw[hfv g hgm,hfv g hgm];exact(WZ h hgm gf h0 hde).2
def Ut {b:ë} {f:Int→Int→Int} {p:Int→Int} (hm:∀g∈b.2.1,∀d∈ß b g,f g.1 d=p (ix b g.1 d)) {l:List Int} {day:Int} (hl:∀x∈l,∃g∈b.2.1,g.1=x∧day∈ß b g):p (Xn b l day)=adD f (p 0) l day:=by
 cases l with
 |nil=>rfl
 |cons x t =>
  obtain⟨g,q1,rfl,q3⟩:=hl x (by simp);exact(hm g q1 day q3).symm
def afd {b:ë} {f:Int→Int→Int} {p:Int→Int} (hm:∀g∈b.2.1,∀d∈ß b g,f g.1 d=p (ix b g.1 d)) {c:Cmp}
 (hl:∀x,x∈û c.2.2.1 c.2.2.2.1∨x∈û c.2.2.2.1 c.2.2.1→∃g∈b.2.1,g.1=x∧c.2.1∈ß b g):p (cx b c)-p (cy b c)=acA f (p 0) c:=by
 unfold acA;rw[afk,afj,Ut hm (fun x hx=>hl x (.inl hx)),Ut hm (fun x hx=>hl x (.inr hx))]
def PE {b:ë} (h:Ł b) (f:Int→Int→Int) (z:Int) {l:List Int} {day:Int} (hl:∀x∈l,∃g∈b.2.1,g.1=x∧day∈ß b g):adS b f z (Xn b l day)=adD f z l day:=by
 rw[acQ h f z hl];unfold adD
 cases l<;>rfl
def adR {b:ë} (h:Ł b) {f:Int→Int→Int} {z:Int} {c:Cmp} (hl:∀x,x∈û c.2.2.1 c.2.2.2.1∨x∈û c.2.2.2.1 c.2.2.1→∃g∈b.2.1,g.1=x∧c.2.1∈ß b g):adS b f z (cx b c)-adS b f z (cy b c)=acA f z c:=by
 unfold acA;rw[afk,afj,PE h f z (fun x hx=>hl x (.inl hx)),PE h f z (fun x hx=>hl x (.inr hx))]
def abW {b:ë} (h:Ł b) {f:Int→Int→Int} {z:Int} {g:ò} (hg:g∈b.2.1) (hh:ajQ b f z g):vd b (adS b f z) g:=by
 have q:∀d∈ß b g,adS b f z (ix b g.1 d)=f g.1 d:=fun d hd=>UH h f z hg hd;have e0:=q g.2.1 (pu g);refine⟨?_,?_,fun d e hd he hde=>?_,fun d e hd he hde=>?_⟩
 ·rw[e0,Kg]; exact hh.hi
 ·rw[e0,Kg]; exact hh.lo
 ·rw[q d hd,q e he]; exact hh.down d e (h.day hg hd).1 hde
 ·rw[q d hd,q e he]; exact hh.loss d e (h.day hg hd).1 hde
section
variable {b:ë} {c:Cmp}
def agW (h:Ł b) {p:Int→Int} (hp:Pot (Ζ b) p):∃f,Hist b f (p 0)∧∀g∈b.2.1,∀d∈ß b g,f g.1 d=p (ix b g.1 d):=by
 obtain⟨hg,hc⟩:=(adU h).1 hp;obtain⟨f,hf,hm⟩:=ae3 h hg;refine⟨f,⟨hf,fun c hcm=>?_⟩,hm⟩;have:=afd hm (c:=c) (fun x hx=>aaN h hcm hx);have:=hc c hcm;omega
def ahk (h:Ł b) {f:Int→Int→Int} {z:Int} (hh:Hist b f z):Pot (Ζ b) (adS b f z):=by
 refine(adU h).2 ⟨fun g hg=>abW h hg (hh.gauge g hg),fun c hc=>?_⟩;have:=adR (f:=f) (z:=z) h (c:=c) (fun x hx=>aaN h hc hx);have:=hh.cmp c hc;omega
def U8 (h:Ł b):kZ (Ζ b) ((Ê b).length+1)=true↔∃f z,Hist b f z:=by
 have:=h.sys.n60;rw[jX h.sys.links (by omega)];constructor
 ·rintro⟨p,hp⟩;obtain⟨f,hf,_⟩:=agW h hp;exact⟨f,_,hf⟩
 ·rintro⟨f,z,hh⟩;exact⟨_,ahk h hh⟩
end
def ahr {m:ŕ} (h:Ł m.1) (p:Cmp→Bool):(ajs m p).1=less m.1 ((m.1.2.2.2.2.1.filter fun c=>!p c).map fun c=>c.1):=by
 unfold ajs less;dsimp only;congr 5;refine List.filter_congr fun c hc=>?_;rw[Bool.eq_iff_iff,Bool.not_eq_true',Bool.eq_false_iff,ne_eq,List.contains_iff_mem,List.mem_map];constructor
 ·rintro hp ⟨c',hc',e⟩;obtain⟨h1,h2⟩:=dH.1 hc'
  have:c'=c:=by
   obtain⟨i,hi,rfl⟩:=cS.1 h1;obtain⟨j,hj,rfl⟩:=cS.1 hc;have hd:=dm.1 h.distinct;rcases Nat.lt_trichotomy i j with hij|hij|hij
   ·exact absurd e (hd i j hi hj hij)
   ·subst hij; rfl
   ·exact absurd e.symm (hd j i hj hi hij)
  rw[this,hp] at h2;cases h2
 ·intro hn
  cases hp:p c with
  |true=>rfl
  |false=>exact absurd ⟨c,dH.2 ⟨hc,by simp[hp]⟩,rfl⟩ hn
def MOk.few {m:ŕ} (h:MOk m) (p:Cmp→Bool):MOk (ajs m p):=by
 refine⟨?_,h.n4,h.mixE,h.prod⟩;rw[ahr h.good];exact h.good.less _
section
variable {m:ŕ} {ρ:Type}
def Ph (h:MOk m) (ids:List Int):ā (tD m ids)=some (Qs (tD m ids)):=sH (h.few _)
def lN (b:ë) (id d:Int):Int:=if !JT d then 1 else if (ø b id).isNone then 5 else 0
def Tj (hn:m.1.2.1.length≤1000) (id d:Int):uM m id d=some (lN m.1 id d):=by
 unfold uM KU lN
 by_cases h:JT d=true
 ·have h':=h;simp only[JT,inP,cH,decide_eq_true_eq] at h';rw[h,Í (by simp[ilt]; omega),Í (by simp[igt]; omega),if_neg (by simp)];refine eA (Ĺ m.1.2.1 (fun g=>g.1==id) (fun z=>ifb (!(ige z (0:Int))) (some 5) (some 0)) (some 0) (some 5) (fun j=>Í (by simp[ige]) _ _) (fun i a hi ha kn=>?_) (fun kn=>?_)) ?_
  ·try dsimp only
   unfold rJ;rw[Ð hi,È ha,Ì hi (by omega),Ď]
  ·try dsimp only
   unfold rJ;rw[Þ]
  ·unfold ø
   cases hf:m.1.2.1.find? (fun g=>g.1==id) with
   |none =>
    rw[if_neg]
    ·rfl
    rw[dj];rintro⟨g,hg,e⟩;exact absurd e (by simpa using(ej.1 hf) g hg)
   |some g =>
    rw[if_pos]
    ·rfl
    have hp:=gj hf;exact dj.2 ⟨g,fC hf,hp⟩
 ·have h':=h;simp only[JT,inP,cH,decide_eq_true_eq,not_and,Int.not_le] at h';rw[if_pos (by simp[h])];rw[Ď,Ď];simp only[ilt,igt,decide_eq_true_eq]
  split
  ·rfl
  ·rw[if_pos (by have:=h' (by omega); omega)]
def Ny (label:Int) (c:Cmp):Bool:=(û c.2.2.1 c.2.2.2.1).contains label||(û c.2.2.2.1 c.2.2.1).contains label
def HA (m:ŕ) (label:Int):Bool×Int:=if ļ m≠0 then(false,ļ m) else if lN m.1 label 0≠0 then(false,lN m.1 label 0) else(!oT (ajs m (Ny label)),0)
def Xv (hs:In m.1) (hn:m.2.length≤1000) (label:Int):po m label=some (HA m label):=by
 unfold po vy HA;rw[nw hs hn,À]
 by_cases hc:ļ m=0
 ·have h:=(Ŋ m).1 hc;have hC:=h.good.nC;rw[Í (by simp[ine,hc]),if_neg (by simp[hc]),Tj hs.size.gauges,À]
  by_cases hk:lN m.1 label 0=0
  ·rw[Í (by simp[ine,hk]),if_neg (by simp[hk]),ċ (Õ (by omega))]
   have hcan:∀c∈m.1.2.2.2.2.1,pM c.2.2.1 c.2.2.2.1=some (û c.2.2.1 c.2.2.2.1,û c.2.2.2.1 c.2.2.1,0)∧(û c.2.2.1 c.2.2.2.1).length≤1000000∧(û c.2.2.2.1 c.2.2.1).length≤1000000:=fun c hc=>by
    obtain⟨p1,p2⟩:=h.good.size.piles c hc;have hnum:=(iO c).1 (h.good.nums hc);have l1:=EP c.2.2.1 c.2.2.2.1;have l2:=EP c.2.2.2.1 c.2.2.1;refine⟨?_,by omega,by omega⟩;rw[agn (by omega) (by omega),ZR,hnum.2.2.2.2.2.1,hnum.2.2.2.2.2.2]; rfl
   have hK:∀l,l=m.1.2.2.2.2.1.filter (Ny label)→Ä (ā ((m.1.1,m.1.2.1,m.1.2.2.1,m.1.2.2.2.1,l,m.1.2.2.2.2.2),m.2)) (fun r24=>some ((!r24.2),(0:Int)))=some (!oT (ajs m (Ny label)),0):=fun l hl=>by
    subst hl;have:=sH (h.few (Ny label));unfold ajs at this ⊢;rw[this,À,wt]
   refine eA (Zp (a:=m.1.2.2.2.2.1) (Ny label) (K:=fun l=>Ä (ā ((m.1.1,m.1.2.1,m.1.2.2.1,m.1.2.2.2.1,l,m.1.2.2.2.2.2),m.2)) fun r24=>some ((!r24.2),(0:Int))) (k0:=afe zC fun l=>Ä (ā ((m.1.1,m.1.2.1,m.1.2.2.1,m.1.2.2.2.1,l,m.1.2.2.2.2.2),m.2)) fun r24=>some ((!r24.2),(0:Int)))
    (kf:=fun z9=>ifb (ieq z9 (-1:Int)) (Ä (ā m) fun r10=>some ((!r10.2),(0:Int))) (ck (z9+(1:Int)) fun n11=>Ë (fun(v25:Int×Int×List Cmp) kk29=>Ι label v25.1 v25.2.1 v25.2.2 (fun u26 u27 u28=>kk29 (u26,u27,u28)) (afe zC fun l=>Ä (ā ((m.1.1,m.1.2.1,m.1.2.2.1,m.1.2.2.2.1,l,m.1.2.2.2.2.2),m.2)) fun r24=>some ((!r24.2),(0:Int)))) (z9,n11,m.1.2.2.2.2.1)))
    (F:=fun a b c kn=>Ι label a b c kn (afe zC fun l=>Ä (ā ((m.1.1,m.1.2.1,m.1.2.2.1,m.1.2.2.2.1,l,m.1.2.2.2.2.2),m.2)) fun r24=>some ((!r24.2),(0:Int)))) (kend:=Ä (ā m) fun r10=>some ((!r10.2),(0:Int))) (fun i x hi hx kn=>?_) (fun kn=>?_) rfl (fun z hz=>?_) (fun i j s x hs hij hj hx hxa kn=>?_) (fun i s kn hi hs=>?_) (fun i s hi=>Zq _ _ hi)) (hK _ rfl)
   ·try dsimp only
    unfold ky;obtain⟨c1,c2,c3⟩:=hcan x (List.mem_of_getElem? hx);rw[Ð hi,Į hi,ô hx,c1,À,ī c2,À,ī c3,À];unfold Ny
    cases(û x.2.2.1 x.2.2.2.1).contains label<;>cases(û x.2.2.2.1 x.2.2.1).contains label<;>simp only[lQ,é,dB,fg,Bool.or_true,Bool.or_false,if_true,cV,if_false]<;>first|rfl|rw[Ì hi (by omega)]
   ·try dsimp only
    unfold ky;rw[Þ]
   ·rw[Í (by simp[ieq]),Ì hz (by omega)]
   ·try dsimp only
    unfold Ι;obtain⟨c1,c2,c3⟩:=hcan x hxa;have hx2:s[i]?=some s[i]:=List.getElem?_eq_getElem (by omega);rw[Ð hj,show î s=((s.length:Nat):Int) from rfl,Į hj,ô hx,c1,À,ī c2,À,ī c3,À];unfold Ny
    cases(û x.2.2.1 x.2.2.2.1).contains label<;>cases(û x.2.2.2.1 x.2.2.1).contains label<;>simp only[lQ,é,dB,fg,Bool.or_true,Bool.or_false,if_true,cV,if_false]<;>first|rw[Ì hj (by omega)]|rw[Į (by omega),ô hx2,Ì (show i<s.length by omega) (by omega),Ì hj (by omega),cT]
   ·try dsimp only
    unfold Ι;rw[Þ]
  ·rw[Ø (by simp[ine,hk]),if_pos hk]
 ·rw[Ø (by simp[ine,hc]),if_pos hc]
def Zg (m:ŕ):List Int:=m.1.2.2.2.2.1.map fun c=>c.1
def afn (m:ŕ):Nat→List Int→List Int
 |0,l=>l
 |i+1,l=>afn m i (if oT (tD m (l.take i++l.drop (i+1))) then l else l.take i++l.drop (i+1))
def ajT (m:ŕ):List Int×Int:=if ļ m≠0 then([],ļ m) else if oT m then([],5) else(afn m (Zg m).length (Zg m),0)
def ajS (hs:In m.1) (hn:m.2.length≤1000):JP m=some (ajT m):=by
 unfold JP RO ajT;rw[nw hs hn,À]
 by_cases hc:ļ m=0
 ·have h:=(Ŋ m).1 hc;have hC:=h.good.nC;have hm:((((m.1.1.1,m.1.1.2),m.1.2.1,m.1.2.2.1,m.1.2.2.2.1,m.1.2.2.2.2.1,m.1.2.2.2.2.2),m.2):ŕ)=m:=rfl;rw[Í (by simp[ine,hc]),if_neg (by simp[hc]),sH h,À,wt]
  cases oT m with
  |true=>rfl
  |false =>
   simp only[é,cV,if_false]
   have hl:(Zg m).length=m.1.2.2.2.2.1.length:=by unfold Zg; simp
   refine eA (wn m.1.2.2.2.2.1 (fun c=>c.1) (fun z5=>ck ((Û z5)-(1:Int)) fun n6=>Ë (fun(v14:List Int×Int) kk17=>qd m.1.1.1 m.1.1.2 m.1.2.1 m.1.2.2.1 m.1.2.2.2.1 m.1.2.2.2.2.1 m.1.2.2.2.2.2 m.2 v14.1 v14.2 (fun u15 u16=>kk17 (u15,u16)) (fun z13=>some (z13,(0:Int)))) (z5,n6)) (fun i a hi ha v kn hv=>?_) (fun v kn=>?_)) ?_
   ·try dsimp only
    unfold vA;rw[Ð hi,È ha,ċ (Õ (by simp; omega)),Ì hi (by omega)]
   ·try dsimp only
    unfold vA;rw[Þ]
   ·show(ck ((Û (Zg m))-(1:Int)) fun n6=>Ë _ (Zg m,n6))=_;rw[Ò,Ô (by omega) (by omega)];refine ĝ (fun x:List Int×Int=>∃i:Nat,x.2=(i:Int)-1∧i≤x.1.length∧x.1.length≤40∧afn m i x.1=afn m (Zg m).length (Zg m)) (fun x=>(x.2+1).toNat) ?_ ⟨_,rfl,Nat.le_refl _,by dsimp only; omega,rfl⟩;rintro⟨l,x2⟩ ⟨i,h1,hil,hl40,hco⟩;simp only at h1 hil hl40 hco;subst h1
    cases i with
    |zero =>
     refine .inl fun kn=>?_
     try dsimp only
     unfold qd;rw[Í (by simp[ige]),←hco]; rfl
    |succ i =>
     have e0:((i+1:Nat):Int)-1=i:=by omega
     have hlen:(l.take i++l.drop (i+1)).length=l.length-1:=by simp; omega
     rw[afn] at hco;refine .inr ⟨(if oT (tD m (l.take i++l.drop (i+1))) then l else l.take i++l.drop (i+1),(i:Int)-1),⟨i,rfl,?_,?_,hco⟩,by simp only[e0]; omega,fun kn=>?_⟩
     ·dsimp only; split<;>omega
     ·dsimp only; split<;>omega
     ·try dsimp only
      unfold qd;rw[e0,Ø (by simp[ige]),ċ (by simp[ile,î]; omega),Ô (by omega) (by omega),ċ (by simp[ile,î]; omega),Int.toNat_natCast,show Int.toNat ((i:Int)+1)=i+1 by omega,NJ (by simp; omega) (by simp; omega),À,hm,Yb (by omega) (by omega),À,Ph h,À,wt,Ď,Ô (by omega) (by omega),Ô (by omega) (by omega)]
      cases oT (tD m (l.take i++l.drop (i+1)))<;>rfl
 ·rw[Ø (by simp[ine,hc]),if_pos hc]
end
def Đ:List Int→Nat→List Int
 |[],_=>[]
 |x::l,s=>if s % 2=1 then x::Đ l (s / 2) else Đ l (s / 2)
def Nk:∀{l:List Int} {s i:Nat} {x:Int},l[i]?=some x→Đ (l.take (i+1)) s=Đ (l.take i) s++if s / 2 ^ i % 2=1 then[x] else[]
 |[],_,_,_,h=>by simp at h
 |y::l,s,0,x,h=>by
  simp at h; subst h;simp[Đ]
 |y::l,s,i+1,x,h=>by
  simp only[fi] at h;have:=Nk (s:=s / 2) h;simp only[gH,Đ,this,Nat.pow_succ',←Nat.div_div_eq_div_mul]
  split<;>rfl
def pO:∀(l:List Int) (s:Nat),(Đ l s).length≤l.length
 |[],_=>cG _
 |x::l,s=>by
  have:=pO l (s / 2);unfold Đ
  split<;>simp only[cW]<;>omega
def bit_i {s i:Nat} (hs:s<9223372036854775808) (hi:i≤60):ieq (andI .i64 (iC .i64 (s:Int) (i:Int)) (1:Int)) (1:Int)=decide (s / 2 ^ i % 2=1):=by
 have h1:iC .i64 (s:Int) (i:Int)=((s / 2 ^ i:Nat):Int):=by
  unfold iC;have:IntKind.i64.bits=64:=rfl;rw[this,Int.toNat_natCast,Nat.min_eq_left (by omega),Int.fdiv_eq_ediv_of_nonneg _ (Int.le_of_lt (Int.pow_pos (by decide)))];push_cast; rfl
 rw[h1];unfold andI agt
 have hb:(BitVec.ofInt 64 ((s / 2 ^ i:Nat):Int) &&& BitVec.ofInt 64 1).toNat=s / 2 ^ i % 2:=by
  rw[BitVec.toNat_and,gA,show BitVec.ofInt 64 1=1#64 from rfl,BitVec.toNat_ofNat];rw[show(1#64).toNat=1 from rfl,Nat.and_one_is_mod,Nat.mod_mod_of_dvd _ (by decide)]
 show ieq (IntKind.i64.wrap ((BitVec.ofInt 64 ((s / 2 ^ i:Nat):Int) &&& BitVec.ofInt 64 1).toNat:Int)) 1=_;have hq:s / 2 ^ i % 2<2:=Nat.mod_lt _ (by decide);rw[hb];generalize s / 2 ^ i % 2=q at hq;rw[ac8 (by omega)];unfold ieq;rw[Bool.eq_iff_iff,beq_iff_eq,decide_eq_true_eq];omega
def aiP (s x:Nat):Bool:=s &&& x==s
def sub_i {s x:Nat} (hs:s<9223372036854775808) (hx:x<9223372036854775808):ieq (Hz .i64 (s:Int) (x:Int)) (0:Int)=aiP s x:=by
 unfold Hz agt;show ieq (IntKind.i64.wrap ((BitVec.ofInt 64 (s:Int) &&& ~~~ BitVec.ofInt 64 (x:Int)).toNat:Int)) 0=_
 have h1:(BitVec.ofInt 64 (s:Int) &&& ~~~ BitVec.ofInt 64 (x:Int)).toNat<9223372036854775808:=by
  rw[BitVec.toNat_and];refine Nat.lt_of_le_of_lt Nat.and_le_left ?_;rw[gA,BitVec.toNat_ofNat,Nat.mod_eq_of_lt (by omega)]; exact hs
 rw[ac8 h1];unfold ieq aiP;rw[Bool.eq_iff_iff,beq_iff_eq,beq_iff_eq]
 have h2:(((BitVec.ofInt 64 (s:Int) &&& ~~~ BitVec.ofInt 64 (x:Int)).toNat:Nat):Int)=0↔∀i,i<64→s.testBit i=true→x.testBit i=true:=by
  rw[Int.natCast_eq_zero,←BitVec.toNat_zero (w:=64),BitVec.toNat_inj];constructor
  ·intro h i hi hsi;have:=congrArg (fun b:BitVec 64=>b.getLsbD i) h;simp only[BitVec.getLsbD_and,BitVec.getLsbD_not,gA,BitVec.getLsbD_ofNat,BitVec.getLsbD_zero,hi,decide_true,eF,hsi] at this;simpa using this
  ·intro h;apply BitVec.eq_of_getLsbD_eq;intro i hi;simp only[BitVec.getLsbD_and,BitVec.getLsbD_not,gA,BitVec.getLsbD_ofNat,BitVec.getLsbD_zero,hi,decide_true,eF]
   cases hsi:s.testBit i with
   |false=>simp
   |true=>rw[h i hi hsi]; simp
 rw[h2];constructor
 ·intro h;refine Nat.eq_of_testBit_eq fun i=>?_;rw[Nat.testBit_and]
  cases hsi:s.testBit i with
  |false=>rfl
  |true =>
   rcases dg i 64 with hi|hi
   ·rw[h i hi hsi]; rfl
   ·have:s<2 ^ i:=dc hs (cY (by decide) (Nat.pow_le_pow_right (by decide) hi));rw[Nat.testBit_lt_two_pow this] at hsi; cases hsi
 ·intro h i _ hsi;rw[←h,Nat.testBit_and,cH] at hsi;exact hsi.2
def ac0:List Int→List Int→Int
 |[],[]=>0
 |[],_=>-1
 |_,[]=>1
 |x::l,y::m=>if x<y then -1 else if y<x then 1 else ac0 l m
def Iu (m:ŕ) (ids:List Int) (st:List Int×Nat×List Nat) (s:Nat):List Int×Nat×List Nat :=
 if st.1.length<(Đ ids s).length∨((Đ ids s).length=st.1.length∧0≤ac0 (Đ ids s) st.1) then st else
 if st.2.2.any (aiP s) then st else if oT (tD m (Đ ids s)) then(st.1,st.2.1,st.2.2++[s]) else(Đ ids s,s,st.2.2)
def Iv (m:ŕ) (ids:List Int) (n:Nat):List Int×Nat×List Nat:=(List.range n).foldl (Iu m ids) (ids,2 ^ ids.length-1,[])
def agd (m:ŕ) (ids:List Int):List Int×Int :=
 if ļ m≠0 then([],ļ m) else if 8<ids.length then([],2) else if !ids.all (fun i=>(Zg m).contains i) then([],5) else if ¬ids.Pairwise (·<·) then([],6) else
 if oT (tD m (Đ ids (2 ^ ids.length-1))) then([],5) else(Đ ids (Iv m ids (2 ^ ids.length-1)).2.1,0)
section
variable {m:ŕ} {ρ:Type}
def Fy {l:List Int} (hl:l.length≤60) {s:Nat} (hs:s<9223372036854775808):iU l (s:Int)=some (Đ l s):=by
 unfold iU Gp;refine ĩ l (fun i=>Đ (l.take i) s) _ rfl (fun i x hi hx kn=>?_) (fun kn=>?_)
 ·try dsimp only
  unfold pf;have hcl:=pO (l.take i) s
  have:(l.take i).length=i:=by rw[cZ]; omega
  rw[Ð hi,È hx,ċ (by simp[ile]),bit_i hs (by omega),Ď,Nk hx]
  by_cases h:s / 2 ^ i % 2=1
  ·rw[if_pos (by simpa using h),if_pos h,ċ (Õ (by simp; omega)),Ì hi (by omega)]
  ·rw[if_neg (by simpa using h),if_neg h,Ì hi (by omega),dh]
 ·try dsimp only
  unfold pf;rw[Þ,List.take_length]
def agP (hn:m.1.2.2.2.2.1.length≤1000) {ids:List Int} (hi:ids.length≤1000) (K:Int→Option ρ) (Z:Option ρ):Ë (fun(v:Int) kk=>ig ids (Û ids) m.1.2.2.2.2.1 v (fun u=>kk u) K (fun _=>Z)) 0=if ids.all (fun i=>(Zg m).contains i) then Z else K 5:=by
 have:=Ĺ ids (fun i=>!(Zg m).contains i) (fun _=>K 5) (K 5) Z (f:=fun v kk=>ig ids (Û ids) m.1.2.2.2.2.1 v (fun u=>kk u) K (fun _=>Z)) (fun _=>rfl) (fun i x hi' hx kn=>?_) (fun kn=>?_)
 ·rw[this,gP]
  cases ids.any (fun i=>!(Zg m).contains i)<;>rfl
 ·try dsimp only
  unfold ig;rw[Ð hi',È hx];refine Eq.trans (Ĺ m.1.2.2.2.2.1 (fun c=>c.1==x) (fun z5=>ifb (!(ige z5 (0:Int))) (K (5:Int)) (ck ((i:Int)+(1:Int)) fun n6=>kn n6)) (kn ((i:Int)+1)) (K 5) (fun j=>by rw[Í (by simp[ige]),Ì hi' (by omega)]) (fun j c hj hc kn'=>?_) (fun kn'=>?_)) ?_
  ·try dsimp only
   unfold lB;rw[Ð hj,È hc,Ì hj (by omega),Ď]
  ·try dsimp only
   unfold lB;rw[Þ]
  ·have:(Zg m).contains x=m.1.2.2.2.2.1.any fun c=>c.1==x:=by
    unfold Zg;rw[Bool.eq_iff_iff,List.contains_iff_mem,List.mem_map,List.any_eq_true];simp
   rw[this]
   cases m.1.2.2.2.2.1.any (fun c=>c.1==x)<;>rfl
 ·try dsimp only
  unfold ig;rw[Þ]
def agO {l:List Int} (hl:l.length≤1000) (k0:Int→Option ρ) (k1:Unit→Option ρ):Ë (fun(v:Int) kk=>jk l v (fun u=>kk u) k0 k1) 1=if l.Pairwise (·<·) then k1 () else k0 6:=by
 refine aaG (fun i a c ha hc kn=>?_) (fun n hn kn=>?_)
 ·have hi:=(List.getElem?_eq_some_iff.1 hc).1;unfold jk
  have e:((i:Int)+1)=((i+1:Nat):Int):=by omega
  rw[e,Ð hi,È hc,Ô (by omega) (by omega),←e,Int.add_sub_cancel,È ha,Ď,Ô (by omega) (by omega)];simp
 ·unfold jk;rw[Í (by simp[ilt,Ò]; omega)]
def Fs (h:MOk m) (ids:List Int) {w:Way} (hw:Ħ m.2 w):Ų (tD m ids) w=some (mZ (tD m ids) w):=qC (h.few _) hw
def agN (h:MOk m) {ids:List Int} (hi:ids.length≤60) {s:Nat} (hs:s<9223372036854775808) (X Z:Option ρ):Ë (fun(v:Int) kk=>jj (ĥ m.2) (Û (ĥ m.2)) m.1.1.1 m.1.1.2 m.1.2.1 m.1.2.2.1 m.1.2.2.2.1 m.1.2.2.2.2.1 m.1.2.2.2.2.2 m.2 ids (s:Int) v (fun u=>kk u) (fun z=>ifb z.2 X Z) (fun _=>Z)) 0=if oT (tD m (Đ ids s)) then X else Z:=by
 have hm:((((m.1.1.1,m.1.1.2),m.1.2.1,m.1.2.2.1,m.1.2.2.2.1,m.1.2.2.2.2.1,m.1.2.2.2.2.2),m.2):ŕ)=m:=rfl;have hl2:=qS h;have hcl:=pO ids s;refine Ĺ (ĥ m.2) (mZ (tD m (Đ ids s))) (fun _=>X) X Z (fun _=>rfl) (fun i x hi' hx kn=>?_) (fun kn=>?_)
 ·try dsimp only
  unfold jj;rw[Ð hi',È hx,Fy hi hs,À,hm,Yb h.good.size.compares (by omega),À,Fs h _ (pP hx),À,Ì hi' (by omega),Ď,Bool.not_not];rfl
 ·try dsimp only
  unfold jj;rw[Þ]
def agK (h:MOk m) {ids:List Int} (hi:ids.length≤60) {s:Nat} (hs:s<9223372036854775808) {op:List Int} (ho:op.length≤1000) (k0 k1:List Int→Option ρ):Ë (fun(v:Int×List Int) kk=>Ř (s:Int) (ĥ m.2) (Û (ĥ m.2)) ids m.1.1.1 m.1.1.2 m.1.2.1 m.1.2.2.1 m.1.2.2.2.1 m.1.2.2.2.2.1 m.1.2.2.2.2.2 m.2 v.1 v.2 (fun a b=>kk (a,b)) k0 k1) ((0:Int),op)=if oT (tD m (Đ ids s)) then k0 (op++[(s:Int)]) else k1 op:=by
 have hm:((((m.1.1.1,m.1.1.2),m.1.2.1,m.1.2.2.1,m.1.2.2.2.1,m.1.2.2.2.2.1,m.1.2.2.2.2.2),m.2):ŕ)=m:=rfl;have hl2:=qS h;have hcl:=pO ids s;refine MA (ĥ m.2) (fun _=>op) _ (fun i=>∀w∈(ĥ m.2).take i,mZ (tD m (Đ ids s)) w=false) rfl (fun w hw=>by simp at hw) (fun i x hi' hx hp kn=>?_) (fun hp kn=>?_)
 ·try dsimp only
  unfold Ř;rw[Ð hi',È hx,Fy hi hs,À,hm,Yb h.good.size.compares (by omega),À,Fs h _ (pP hx),À,Ì hi' (by omega),ċ (Õ (by simp; omega)),Ď,Bool.not_not]
  cases hx2:mZ (tD m (Đ ids s)) x with
  |true =>
   refine .inl ?_;have:oT (tD m (Đ ids s))=true:=dj.2 ⟨x,cO hx,hx2⟩;rw[this]; rfl
  |false =>
   refine .inr ⟨fun w hw=>?_,rfl⟩;rw[take_succ hx] at hw;rcases cM.1 hw with hw|hw
   ·exact hp w hw
   ·rw[cP.1 hw]; exact hx2
 ·rw[fP] at hp
  try dsimp only
  unfold Ř
  have:oT (tD m (Đ ids s))=false:=dM.2 fun w hw=>by rw[show mZ (tD m (Đ ids s)) w=false from hp w hw]; simp
  rw[Þ,this]; rfl
def agL {s:Nat} (hs:s<9223372036854775808) {op:List Nat} (ho:op.length≤1000) (hop:∀x∈op,x<9223372036854775808) (X Z:Option ρ):Ë (fun(v:Int) kk=>ř (s:Int) (Û (op.map fun(x:Nat)=>(x:Int))) (op.map fun(x:Nat)=>(x:Int)) v (fun u=>kk u) (fun _=>X) (fun _=>Z)) 0=if op.any (aiP s) then X else Z:=by
 refine Ĺ op (aiP s) (fun _=>X) X Z (fun _=>rfl) (fun i x hi hx kn=>?_) (fun kn=>?_)
 ·try dsimp only
  unfold ř
  have hx':(op.map fun(x:Nat)=>(x:Int))[i]?=some (x:Int):=by rw[eQ,hx]; rfl
  have hi':i<(op.map fun(x:Nat)=>(x:Int)).length:=by simpa using hi
  rw[Ð hi',Į hi',ô hx',sub_i hs (hop x (cO hx)),Ì hi (by omega),Ď]
 ·try dsimp only
  unfold ř;rw[Ò,Í (by simp[ilt])]
def ajh {l m:List Int} (h:l.length=m.length) (hp:∀(i:Nat) (x y:Int),l[i]?=some x→m[i]?=some y→x=y):ac0 l m=0:=by
 induction l generalizing m with
 |nil=>cases m with|nil=>rfl|cons _ _=>cases h
 |cons x l ih =>
  cases m with
  |nil=>cases h
  |cons y m =>
   have e:=hp 0 x y rfl rfl;subst e;rw[ac0,if_neg (by omega),if_neg (by omega)];exact ih (by simpa using h) fun i a b ha hb=>hp (i+1) a b ha hb
def lex_at {l m:List Int} {i:Nat} {x y:Int} (hx:l[i]?=some x) (hy:m[i]?=some y) (hp:∀(j:Nat) (a b:Int),j<i→l[j]?=some a→m[j]?=some b→a=b) (hne:x≠y):ac0 l m=if x<y then -1 else 1:=by
 induction l generalizing m i with
 |nil=>simp at hx
 |cons a l ih =>
  cases m with
  |nil=>simp at hy
  |cons b m =>
   cases i with
   |zero =>
    simp at hx hy; subst hx hy;rw[ac0]
    split
    ·rfl
    ·rw[if_pos (by omega)]
   |succ i =>
    have e:=hp 0 a b (by omega) rfl rfl;subst e;rw[ac0,if_neg (by omega),if_neg (by omega)];exact ih (by simpa using hx) (by simpa using hy) fun j a b hj ha hb=>hp (j+1) a b (by omega) ha hb
def agM {l k:List Int} (h:k.length=l.length) (hl:l.length≤1000) (X Y:Option ρ):Ë (fun(v:Int) kk=>ź l k (Û k) v (fun u=>kk u) (fun z=>ifb (ige z (0:Int)) X Y) (fun _=>X)) 0=if 0≤ac0 k l then X else Y:=by
 have:=ĝ (r:=if 0≤ac0 k l then X else Y) (f:=fun v kk=>ź l k (Û k) v (fun u=>kk u) (fun z=>ifb (ige z (0:Int)) X Y) (fun _=>X)) (x:=(0:Int)) (fun x=>∃i:Nat,x=i∧i≤k.length∧∀(j:Nat) (a b:Int),j<i→k[j]?=some a→l[j]?=some b→a=b) (fun x=>k.length-x.toNat) ?_ ⟨0,rfl,dQ _,fun j a b hj=>by omega⟩
 ·exact this
 ·rintro x ⟨i,rfl,hi,hp⟩;rcases dg i k.length with hlt|hge
  ·have hx:k[i]?=some k[i]:=cF hlt;have hy:l[i]?=some l[i]:=cF (by omega)
   have hf:∀kn,ź l k (Û k) (i:Int) kn (fun z=>ifb (ige z (0:Int)) X Y) (fun _=>X)=if k[i]=l[i] then kn ((i:Int)+1) else if k[i]<l[i] then Y else X:=fun kn=>by
    unfold ź;rw[Ð hlt,È hx,Í (by simp[ige,Ò]; omega),È hy,afq,À,Ì hlt (by omega)]
    by_cases h1:k[i]<l[i]
    ·rw[if_pos h1,if_neg (by omega),if_pos h1]; rfl
    ·rw[if_neg h1]
     by_cases h2:l[i]<k[i]
     ·rw[if_pos h2,if_neg (by omega),if_neg h1]; rfl
     ·rw[if_neg h2,if_pos (by omega)]; rfl
   by_cases he:k[i]=l[i]
   ·refine .inr ⟨(i:Int)+1,⟨i+1,by simp,hlt,fun j a b hj ha hb=>?_⟩,by omega,fun kn=>by rw[hf,if_pos he]⟩;rcases dg j i with h1|h1
    ·exact hp j a b h1 ha hb
    ·have:j=i:=by omega
     subst this;rw[hx] at ha; rw[hy] at hb;cases ha; cases hb;exact he
   ·refine .inl fun kn=>?_;rw[hf,if_neg he,lex_at hx hy hp he]
    by_cases h1:k[i]<l[i]
    ·rw[if_pos h1,if_pos h1]; rfl
    ·rw[if_neg h1,if_neg h1]; rfl
  ·refine .inl fun kn=>?_
   have:i=k.length:=by omega
   subst this;unfold ź;rw[Þ,ajh h fun j a b ha hb=>hp j a b (List.getElem?_eq_some_iff.1 ha).1 ha hb];rfl
abbrev stI (st:List Int×Nat×List Nat) (n:Nat):List Int×Int×Int×List Int:=(st.1,(st.2.1:Int),(n:Int),st.2.2.map fun(x:Nat)=>(x:Int))
def abP (h:MOk m) {ids:List Int} (hi:ids.length≤8) {n N:Nat} (hn:n<N) (hN:N≤256) {st:List Int×Nat×List Nat} (h1:st.1.length≤8) (ho:st.2.2.length≤n) (hop:∀x∈st.2.2,x<n) (kn:List Int→Int→Int→List Int→Option ρ) (k0:Int×List Int→Option ρ) :
 Ż (ĥ m.2) (N:Int) ids m.1.1.1 m.1.1.2 m.1.2.1 m.1.2.2.1 m.1.2.2.2.1 m.1.2.2.2.2.1 m.1.2.2.2.2.2 m.2 (stI st n).1 (stI st n).2.1 (stI st n).2.2.1 (stI st n).2.2.2 kn k0=kn (stI (Iu m ids st n) (n+1)).1 (stI (Iu m ids st n) (n+1)).2.1 (stI (Iu m ids st n) (n+1)).2.2.1 (stI (Iu m ids st n) (n+1)).2.2.2:=by
 have hcl:=pO ids n;dsimp only;unfold Ż
 have hop':∀x∈st.2.2,x<9223372036854775808:=fun x hx=>by have:=hop x hx; omega
 have ho':(st.2.2.map fun(x:Nat)=>(x:Int)).length≤1000:=by rw[dA]; omega
 have e1:∀f:Int→Option ρ,ck ((n:Int)+(1:Int)) f=f ((n+1:Nat):Int):=fun f=>by rw[Ô (by omega) (by omega)]; simp
 rw[Ø (by simp[ilt]; omega),Fy (by omega) (by omega),À];unfold Iu
 by_cases hgt:st.1.length<(Đ ids n).length
 ·rw[Ø (by simp[igt,Ò]; omega),if_pos (.inl hgt),e1]
 ·rw[Í (by simp[igt,Ò]; omega)]
  have inner:∀K1 K2:Option ρ,Ë (fun(v53:Int) kk55=>ř (n:Int) (Û (st.2.2.map fun(x:Nat)=>(x:Int))) (st.2.2.map fun(x:Nat)=>(x:Int)) v53 (fun u54=>kk55 u54) (fun _=>ck ((n:Int)+(1:Int)) fun n38=>kn st.1 (st.2.1:Int) n38 (st.2.2.map fun(x:Nat)=>(x:Int))) (fun _=>Ë (fun(v49:Int×List Int) kk52=>Ř (n:Int) (ĥ m.2) (Û (ĥ m.2)) ids m.1.1.1 m.1.1.2 m.1.2.1 m.1.2.2.1 m.1.2.2.2.1 m.1.2.2.2.2.1 m.1.2.2.2.2.2 m.2 v49.1 v49.2 (fun u50 u51=>kk52 (u50,u51)) (fun z45=>ck ((n:Int)+(1:Int)) fun n46=>kn st.1 (st.2.1:Int) n46 z45) (fun z47=>ck ((n:Int)+(1:Int)) fun n48=>kn (Đ ids n) (n:Int) n48 z47)) ((0:Int),st.2.2.map fun(x:Nat)=>(x:Int)))) (0:Int) =
   (fun s2=>kn (stI s2 (n+1)).1 (stI s2 (n+1)).2.1 (stI s2 (n+1)).2.2.1 (stI s2 (n+1)).2.2.2) (if st.2.2.any (aiP n) then st else if oT (tD m (Đ ids n)) then(st.1,st.2.1,st.2.2++[n]) else(Đ ids n,n,st.2.2)):=fun _ _=>by
   rw[agK h (by omega) (by omega) ho',agL (by omega) (by omega) hop',e1,e1,e1]
   cases st.2.2.any (aiP n) with
   |true=>rfl
   |false =>
    cases oT (tD m (Đ ids n)) with
    |true=>simp
    |false=>rfl
  by_cases heq:(Đ ids n).length=st.1.length
  ·rw[Ø (by simp[ieq,Ò]; omega),inner none none,Í (show ilt (Û (Đ ids n)) (Û st.1)=false by simp[ilt,Ò]; omega),agM heq (by omega),e1]
   by_cases hlex:0≤ac0 (Đ ids n) st.1
   ·rw[if_pos hlex,if_pos (.inr ⟨heq,hlex⟩)]
   ·rw[if_neg hlex,if_neg (show ¬(st.1.length<(Đ ids n).length∨((Đ ids n).length=st.1.length∧0≤ac0 (Đ ids n) st.1)) from fun h=>h.elim hgt fun h=>hlex h.2)]
  ·rw[Í (by simp[ieq,Ò]; omega),inner none none,if_neg (show ¬(st.1.length<(Đ ids n).length∨((Đ ids n).length=st.1.length∧0≤ac0 (Đ ids n) st.1)) from fun h=>h.elim hgt fun h=>heq h.1)]
def agE {ids:List Int} {n:Nat} {st:List Int×Nat×List Nat} (hi:ids.length≤8) (h1:st.1.length≤8) (h2:st.2.2.length≤n) (h3:∀x∈st.2.2,x<n):(Iu m ids st n).1.length≤8∧(Iu m ids st n).2.2.length≤n+1∧∀x∈(Iu m ids st n).2.2,x<n+1:=by
 have hcl:=pO ids n;unfold Iu
 split
 ·exact⟨h1,by omega,fun x hx=>by have:=h3 x hx; omega⟩
 split
 ·exact⟨h1,by omega,fun x hx=>by have:=h3 x hx; omega⟩
 split
 ·refine⟨h1,by simp; omega,fun x hx=>?_⟩;rcases cM.1 hx with hx|hx
  ·have:=h3 x hx; omega
  ·rw[cP.1 hx]; omega
 ·exact⟨by dsimp only; omega,by dsimp only; omega,fun x hx=>by have:=h3 x hx; omega⟩
def aac {ids:List Int} (hi:ids.length≤8):∀n,(Iv m ids n).1.length≤8∧(Iv m ids n).2.2.length≤n∧∀x∈(Iv m ids n).2.2,x<n
 |0=>⟨hi,cG _,fun x hx=>by cases hx⟩
 |n+1=>by
  obtain⟨h1,h2,h3⟩:=aac hi n;have:=agE (m:=m) hi h1 h2 h3;unfold Iv at this ⊢;rw[List.range_succ,List.foldl_append];exact this
def pow8 {n:Nat} (h:n≤8):1≤2 ^ n∧2 ^ n≤256:=⟨Nat.one_le_pow _ _ (by decide),Nat.pow_le_pow_right (by decide) h⟩
def aaZ {ids:List Int} (hi:ids.length≤8):∀n,n≤256→(Iv m ids n).2.1≤256
 |0,_=>by have:=(pow8 hi).2; show 2 ^ ids.length-1≤256; omega
 |n+1,hn=>by
  have ih:=aaZ hi n (by omega);unfold Iv at ih ⊢;rw[List.range_succ,List.foldl_append];show(Iu m ids _ n).2.1≤256;unfold Iu
  split
  ·exact ih
  split
  ·exact ih
  split
  ·exact ih
  ·dsimp only; omega
def ZL (hs:In m.1) (hn:m.2.length≤1000) {ids:List Int} (hil:ids.length≤1000000):sw m ids=some (agd m ids):=by
 unfold sw yj agd;rw[nw hs hn,À]
 by_cases hc:ļ m=0
 ·have h:=(Ŋ m).1 hc;rw[Í (by simp[ine,hc]),if_neg (by simp[hc])]
  by_cases h8:8<ids.length
  ·rw[Ø (by simp[igt,Ò]; omega),if_pos h8]
  ·have hi:ids.length≤8:=by omega
   obtain⟨p1,p2⟩:=pow8 hi;rw[Í (by simp[igt,Ò]; omega),if_neg h8,agP h.good.size.compares (by omega)]
   cases ids.all (fun i=>(Zg m).contains i) with
   |false=>rfl
   |true =>
    rw[if_pos rfl,if_neg (by simp),agO (by omega)]
    by_cases hp:ids.Pairwise (·<·)
    ·have hsh:shlI .i64 (1:Int) (Û ids)=((2 ^ ids.length:Nat):Int):=by
      unfold shlI;rw[Ò,Int.toNat_natCast,Nat.min_eq_left (by show ids.length≤64; omega),Int.one_mul,show((2:Int) ^ ids.length)=((2 ^ ids.length:Nat):Int) by simp,ac8 (by omega)]
     have e0:((2 ^ ids.length:Nat):Int)-1=((2 ^ ids.length-1:Nat):Int):=by omega
     rw[if_pos hp,if_neg (by simpa using hp),JX h,À,ċ (by simp[ile,Ò]),hsh,Ô (by omega) (by omega),e0]
     have loop:Ë (fun(v91:List Int×Int×Int×List Int) kk96=>Ż (ĥ m.2) ((2 ^ ids.length-1:Nat):Int) ids m.1.1.1 m.1.1.2 m.1.2.1 m.1.2.2.1 m.1.2.2.2.1 m.1.2.2.2.2.1 m.1.2.2.2.2.2 m.2 v91.1 v91.2.1 v91.2.2.1 v91.2.2.2 (fun u92 u93 u94 u95=>kk96 (u92,u93,u94,u95)) (fun z89=>Ä (iU ids z89.1) fun r90=>some (r90,(0:Int)))) (ids,((2 ^ ids.length-1:Nat):Int),(0:Int),[])=some (Đ ids (Iv m ids (2 ^ ids.length-1)).2.1,0):=by
      refine ĝ (fun x=>∃n:Nat,n≤2 ^ ids.length-1∧x=stI (Iv m ids n) n) (fun x=>2 ^ ids.length-1-x.2.2.1.toNat) ?_ ⟨0,dQ _,rfl⟩;rintro x ⟨n,hn',rfl⟩;obtain⟨i1,i2,i3⟩:=aac (m:=m) hi n;rcases dg n (2 ^ ids.length-1) with hlt|hge
      ·refine .inr ⟨stI (Iv m ids (n+1)) (n+1),⟨n+1,hlt,rfl⟩,by dsimp only; omega,fun kn=>?_⟩;have:=abP h hi hlt (by omega) i1 i2 i3 (fun a b c d=>kn (a,b,c,d)) (fun z89=>Ä (iU ids z89.1) fun r90=>some (r90,(0:Int)));rw[this];unfold Iv;rw[List.range_succ,List.foldl_append]; rfl
      ·have:n=2 ^ ids.length-1:=by omega
       subst this;refine .inl fun kn=>?_;have hf:=aaZ (m:=m) hi (2 ^ ids.length-1) (by omega);dsimp only;unfold Ż;rw[Í (by simp[ilt])];dsimp only;rw[Fy (by omega) (by omega)]; rfl
     have h3:=agN h (ids:=ids) (by omega) (s:=2 ^ ids.length-1) (by omega) (some ([],(5:Int))) (some (Đ ids (Iv m ids (2 ^ ids.length-1)).2.1,0));rw[loop,h3]
     split<;>rfl
    ·rw[if_neg hp,if_pos hp]
 ·rw[Ø (by simp[ine,hc]),if_pos hc]
end
def Jm (b:ë) (x d:Int):Int:=match jg (Ê b) x d with|some j=>(j:Int)+1|none=>0
def FJ (b:ë) (n:Int×Int):Int×Int:=if ñ b≠0 then(0,ñ b) else if Jm b n.1 n.2=0 then(0,5) else(Jm b n.1 n.2,0)
def FK {b:ë} (h:In b) (n:Int×Int):ka b n=some (FJ b n):=by
 have hl:=PP h.size;unfold ka Mw FJ;rw[kE h.size h.num,À]
 by_cases hc:ñ b=0
 ·rw[Í (by simp[ine,hc]),if_neg (show ¬(ñ b≠0) from fun h=>h hc),JB h.size,À,show ó (Ê b) n=ó (Ê b) (n.1,n.2) from rfl,Xy (by omega),À];unfold Jm
  cases hx:jg (Ê b) n.1 n.2 with
  |none=>rfl
  |some j =>
   have:=(jD hx).1;simp only;rw[Í (by simp[ilt]),Ô (by omega) (by omega),if_neg (by omega)]
 ·rw[Ø (by simp[ine,hc]),if_pos hc]
def Ő (b:ë) (n:Int×Int):ë:=(b.1,b.2.1,b.2.2.1,b.2.2.2.1,b.2.2.2.2.1,b.2.2.2.2.2++[n])
def aeu {b:ë} (h:Ł b) (n:Int×Int):qF (Ő b n):=by
 have hs:=h.size;have:=h.nK;exact⟨hs.gauges,hs.uses,hs.loans,hs.compares,by simp[Ő]; omega,hs.piles⟩
def ZN (b:ë) (n:Int×Int):ë×Int:=if ñ b≠0 then(Jr,ñ b) else if ñ (Ő b n)≠0 then(Jr,ñ (Ő b n)) else(Ő b n,0)
def agi {b:ë} (h:In b) (n:Int×Int):wB b n=some (ZN b n):=by
 have hs:=h.size;have h1:=hs.gauges; have h2:=hs.uses; have h3:=hs.loans; have h4:=hs.compares; have h5:=hs.looks;unfold wB S9 ZN;rw[kE hs h.num,À]
 by_cases hc:ñ b=0
 ·have hg:=(ö b).1 hc;rw[Í (by simp[ine,hc]),Õ (by omega),Am.iff_true,Õ (by omega),Am.iff_true,Õ (by omega),Am.iff_true,Õ (by omega),Am.iff_true,Õ (by omega),Am.iff_true,if_neg (show ¬(ñ b≠0) from fun h=>h hc)];refine ĩ b.2.2.2.2.1 (fun _=>b.2.2.2.2.1) _ rfl (fun i d hi hd kn=>?_) (fun kn=>?_)
  ·dsimp only;unfold wj;obtain⟨p1,p2⟩:=hs.piles d (List.mem_of_getElem? hd)
   have e1:b.2.2.2.2.1.set i d=b.2.2.2.2.1:=by
    obtain⟨h,rfl⟩:=cI.1 hd;exact List.set_getElem_self h
   rw[Ð hi,Į hi,ô hd,Õ (by omega),Am.iff_true,Õ (by omega),Am.iff_true,Į hi,ô hd,cT];rw[show(d.1,d.2.1,d.2.2.1,d.2.2.2)=d from rfl,e1,Į hi,i9 hd,Ì hi (by omega)];rw[show(d.1,d.2.1,d.2.2.1,d.2.2.2.1,d.2.2.2.2)=d from rfl,e1]
  ·try dsimp only
   unfold wj;rw[Þ];dsimp only;rw[Õ (by simp only[List.length_singleton]; omega),Am.iff_true];rw[show ĕ (b.1,b.2.1,b.2.2.1,b.2.2.2.1,b.2.2.2.2.1,b.2.2.2.2.2++[n])=ĕ (Ő b n) from rfl,kE (aeu hg n) h.num,À]
   by_cases hc2:ñ (Ő b n)=0
   ·rw[Í (by simp[ine,hc2]),if_neg (show ¬(ñ (Ő b n)≠0) from fun h=>h hc2)];rfl
   ·rw[Ø (by simp[ine,hc2]),if_pos hc2];rfl
 ·rw[Ø (by simp[ine,hc]),if_pos hc];rfl
def iB (b:ë) (n:Int×Int):ë×Int:=if Jm b n.1 n.2≠0 then(b,0) else if ñ (Ő b n)≠0 then(Jr,ñ (Ő b n)) else(Ő b n,0)
def oV:ë→List (Int×Int)→ë×Int
 |b,[]=>(b,0)
 |b,n::t=>if (iB b n).2≠0 then(Jr,(iB b n).2) else oV (iB b n).1 t
def Un {b:ë} (h:Ł b) {n:Int×Int} (e:(iB b n).2=0):Ł (iB b n).1:=by
 unfold iB at e ⊢
 split
 ·exact h
 ·rename_i h1;rw[if_neg h1] at e
  split
  ·rename_i h2;rw[if_pos h2] at e;exact absurd e h2
  ·rename_i h2;exact(ö _).1 (by simpa using h2)
def J9:∀{ns:List (Int×Int)} {b:ë},Ł b→(oV b ns).2=0→Ł (oV b ns).1
 |[],b,h,_=>h
 |n::t,b,h,e=>by
  unfold oV at e ⊢
  split
  ·rename_i h1; rw[if_pos h1] at e; exact absurd e h1
  ·rename_i h1;rw[if_neg h1] at e;exact J9 (Un h (by simpa using h1)) e
def Ł.inn {b:ë} (h:Ł b) (hn:∀g∈b.2.1,I64 g.2.2.2.2.1.1):In b:=⟨h.size,hn⟩
def ZO {b:ë} (h:Ł b) (n:Int×Int):FJ b n=if Jm b n.1 n.2=0 then(0,5) else(Jm b n.1 n.2,0):=by
 unfold FJ;rw[if_neg (by simp[(ö b).2 h])]
structure Room (B:ë):Prop where
 good:Ł B
 op:kZ (Ζ B) ((Ê B).length+1)=true
 num:∀g∈B.2.1,I64 g.2.2.2.2.1.1
def Zd (B:ë) (n:Int×Int):0≤Jm B n.1 n.2∧Jm B n.1 n.2<((Ê B).length+1:Nat):=by
 unfold Jm
 cases h:jg (Ê B) n.1 n.2 with
 |none=>dsimp only; omega
 |some j=>have:=(jD h).1; dsimp only; omega
def dstR (B:ë) (s t:Int):Int:=dst (Ζ B) ((Ê B).length+1) s t
def ivR (B:ë) (n:Int×Int):Int×Int:=(-(dstR B (Jm B n.1 n.2) 0),dstR B 0 (Jm B n.1 n.2))
def ZU (B:ë):0≤(0:Int)∧(0:Int)<((Ê B).length+1:Nat):=by omega
def Qn {ρ α:Type} {l:List α} {i:Int} (h0:0≤i) {a:α} (h:l[i.toNat]?=some a) (f:α→Option ρ):ě l i f=f a:=by
 obtain⟨n,rfl⟩:=fJ h0;exact È (by simpa using h) f
instance dec1:DecidableEq ((Int×Int)×Int):=fun a b=>instDecidableEqProd a b
instance dec2:DecidableEq ((Int×Int)×((Int×Int)×Int)):=fun a b=>instDecidableEqProd a b
instance dec3:DecidableEq (Int×(Int×Int)×((Int×Int)×Int)):=fun a b=>instDecidableEqProd a b
instance dec4:DecidableEq (Int×Int×(Int×Int)×((Int×Int)×Int)):=fun a b=>instDecidableEqProd a b
instance decG:DecidableEq ò:=fun a b=>instDecidableEqProd a b
def jw (x:List Int) (y:List Int) (l:Lk):List Int:=if gv x l.2.1=Ŝ then y else y.set l.1.toNat (min (gv y l.1) (l.2.2+gv x l.2.1))
def Qz (L:List Lk) (N:Nat) (x:List Int):List Int:=L.foldl (jw x) (List.replicate N Ŝ)
def exL (L:List Lk) (N:Nat) (to:Int):Nat→List Int
 |0=>(List.replicate N Ŝ).set to.toNat 0
 |k+1=>Qz L N (exL L N to k)
def mo (L:List Lk) (N:Nat) (to:Int) (most:Nat):List (List Int):=(List.range (most+1)).map (exL L N to)
section
variable {L:List Lk} {N:Nat}
def Hl (x y:List Int) (l:Lk):(jw x y l).length=y.length:=by unfold jw; split<;>simp
def Hm (x:List Int):∀(M:List Lk) (y:List Int),(M.foldl (jw x) y).length=y.length
 |[],y=>rfl
 |l::M,y=>by rw[gg,Hm x M,Hl]
def acx (x:List Int):(Qz L N x).length=N:=by unfold Qz; rw[Hm]; simp
def Zm (to:Int) (k:Nat):(exL L N to k).length=N:=by
 cases k with
 |zero=>simp[exL]
 |succ k=>exact acx _
def Lim (B:Int) (x:List Int):Prop:=∀v:Int,gv x v≠Ŝ→-B≤gv x v∧gv x v≤B
def gv_out {x:List Int} {v:Int} (h:¬v.toNat<x.length):gv x v=0:=by
 unfold gv;rw[List.getElem?_eq_none (by omega)];rfl
def MB {B:Int} (hB:0≤B):Lim B (List.replicate N Ŝ):=by
 intro v hv
 by_cases h:v.toNat<N
 ·exfalso; apply hv;unfold gv;rw[List.getElem?_replicate,if_pos h];rfl
 ·rw[gv_out (by simpa using h)]; omega
def aeE {B:Int} {y:List Int} (hy:Lim B y) {u:Int} (hu:0≤u) (hl:u.toNat<y.length) {a:Int} (ha:a≠Ŝ→-B≤a∧a≤B):Lim B (y.set u.toNat a):=by
 intro v hv
 by_cases h:v.toNat=u.toNat
 ·have:gv (y.set u.toNat a) v=a:=by
   unfold gv;rw[h,List.getElem?_set_self hl];rfl
  rw[this] at hv ⊢;exact ha hv
 ·have:gv (y.set u.toNat a) v=gv y v:=by
   unfold gv;rw[List.getElem?_set_ne (fun e=>h e.symm)]
  rw[this] at hv ⊢;exact hy v hv
def aaJ (hS:jA L N) {B:Int} (hB:0≤B) (hB2:B≤1000000000000000000) {x y:List Int} (hx:Lim B x) (hy:Lim (B+4503599627370496) y) (hl:y.length=N) {l:Lk} (hm:l∈L):Lim (B+4503599627370496) (jw x y l):=by
 unfold jw
 split
 ·exact hy
 ·rename_i hf;have h1:=hS.inr l hm;have h2:=hS.most l hm;have h3:=hx _ hf;refine aeE hy h1.1.1 (by omega) fun ha=>?_
  by_cases h4:gv y l.1=Ŝ
  ·rw[h4] at ha ⊢
   have:min Ŝ (l.2.2+gv x l.2.1)=l.2.2+gv x l.2.1:=by unfold Ŝ; omega
   rw[this]; omega
  ·have:=hy _ h4;omega
def aaK (hS:jA L N) {B:Int} (hB:0≤B) (hB2:B≤1000000000000000000) {x:List Int} (hx:Lim B x):∀(M:List Lk),(∀l∈M,l∈L)→∀y:List Int,y.length=N→Lim (B+4503599627370496) y→Lim (B+4503599627370496) (M.foldl (jw x) y)
 |[],_,y,_,hy=>hy
 |l::M,hM,y,hl,hy=>by
  rw[gg];exact aaK hS hB hB2 hx M (fun m hm=>hM m (by simp[hm])) _ (by rw[Hl,hl]) (aaJ hS hB hB2 hx hy hl (hM l (by simp)))
def CF (hS:jA L N) {to:Int} (ht:0≤to∧to<N):∀k:Nat,k≤200→Lim (k*4503599627370496) (exL L N to k)
 |0,_=>by
  unfold exL;exact aeE (MB (by omega)) ht.1 (by simp; omega) (fun _=>by omega)
 |k+1,hk=>by
  have:=aaK hS (B:=k*4503599627370496) (by omega) (by omega) (CF hS ht k (by omega)) L (fun _ h=>h) (List.replicate N Ŝ) (by simp) (MB (by omega));unfold exL Qz
  have e:(((k+1:Nat):Int)*4503599627370496)=(k:Int)*4503599627370496+4503599627370496:=by push_cast; omega
  rw[e];exact this
def WY {ρ:Type} (hN:N≤1000) (K:List Int→Option ρ) {f:Int×List Int→(Int×List Int→Option ρ)→Option ρ}
 (hf:∀(v:Int×List Int) kk,f v kk=zB (N:Int) v.1 v.2 (fun u34 u35=>kk (u34,u35)) K):Ë f ((0:Int),List.replicate N (0:Int))=K (List.replicate N Ŝ):=by
 refine ĩ (List.replicate N (0:Int)) (fun i=>List.replicate i Ŝ++List.replicate (N-i) (0:Int)) _ (by simp) (fun i a hi ha kn=>?_) (fun kn=>?_)
 ·rw[hf];dsimp only;unfold zB;rw[List.length_replicate] at hi
  have hlen:(List.replicate i Ŝ++List.replicate (N-i) (0:Int)).length=N:=by simp; omega
  have e1:ilt (i:Int) (N:Int)=true:=decide_eq_true (by omega);rw[Ø e1,show î (List.replicate i Ŝ++List.replicate (N-i) (0:Int))=(N:Int) by unfold î; rw[hlen],ŭ (by omega) (by omega),jh (by rw[hlen]; omega),Ô (by omega) (by omega)];congr 2;rw[Int.toNat_natCast];rw[List.set_append_right _ _ (by simp),List.length_replicate,Nat.sub_self];rw[show N-i=(N-(i+1))+1 by omega,List.replicate_succ,List.set_cons_zero,List.replicate_succ'];simp
 ·rw[hf];dsimp only;unfold zB;rw[List.length_replicate];have e1:ilt (N:Int) (N:Int)=false:=decide_eq_false (by omega);rw[Í e1];simp
def okN (hN:N≤1000) {ρ:Type} (x:Option ρ):ä ((ile (0:Int) (N:Int))&&(ê (Int.toNat (N:Int)))) x=x:=by
 rw[ċ];rw[cT,Õ (by omega),Bool.and_true];exact decide_eq_true (by omega)
def aeD {ρ:Type} (hS:jA L N) {B:Int} (hB:0≤B) (hB2:B≤1000000000000000000) {x:List Int} (hx:Lim B x) (hxl:x.length=N) (K:List Int→Option ρ) :
 Ë (fun(v20:(Val (.pair tI (.slice tI)))) kk23=>D7 x L (Û L) v20.1 v20.2 (fun u21 u22=>kk23 (u21,u22)) K) ((0:Int),List.replicate N Ŝ)=K (Qz L N x):=by
 have hl3:=hS.len;refine ĩ L (fun i=>(L.take i).foldl (jw x) (List.replicate N Ŝ)) _ rfl (fun i l hi hl kn=>?_) (fun kn=>?_)
 ·try dsimp only
  unfold D7;have hm:=List.mem_of_getElem? hl;have h1:=hS.inr l hm;have h2:=hS.most l hm;rw[Ð hi,È hl,oL h1.2.1 (by omega),take_succ hl,List.foldl_append,Ì hi (by omega)]
  have hlen:((L.take i).foldl (jw x) (List.replicate N Ŝ)).length=N:=by rw[Hm]; simp
  generalize (L.take i).foldl (jw x) (List.replicate N Ŝ)=y at hlen ⊢
  by_cases hf:gv x l.2.1=Ŝ
  ·rw[Í (by rw[hf]; rfl)];simp only[List.foldl_cons,List.foldl_nil];unfold jw;rw[if_pos hf]
  ·have h3:=hx _ hf;rw[Ø (bne_iff_ne.2 hf),show î y=(N:Int) by unfold î; rw[hlen],ŭ h1.1.1 h1.1.2,jh (by omega),oL h1.2.1 (by omega),Ô (by omega) (by omega),ŭ h1.1.1 h1.1.2,jh (by omega),Ì hi (by omega)];simp only[List.foldl_cons,List.foldl_nil];unfold jw;rw[if_neg hf,Zb]
 ·try dsimp only
  unfold D7;rw[Þ,List.take_length];rfl
def ahu {ρ:Type}:@RV ρ=@zB ρ:=rfl
def Hj (to:Int) (m:Nat):(mo L N to m).length=m+1:=by simp[mo]
def Hk {to:Int} {m k:Nat} (hk:k≤m):(mo L N to m)[k]?=some (exL L N to k):=by
 unfold mo;rw[List.getElem?_map,List.getElem?_range (by omega)];rfl
def aht (hS:jA L N) {to:Int} (ht:0≤to∧to<N) {most:Nat} (hm:most≤100):Fk ((N:Int),L) to (most:Int)=some (mo L N to most):=by
 have hN:=hS.n60
 unfold Fk Ly
 dsimp only;rw[okN (by omega),Int.toNat_natCast];refine(WY (by omega) _ (fun v kk=>by rw[Ò,List.length_replicate])).trans ?_;rw[show î (List.replicate N Ŝ)=(N:Int) by simp[î],ŭ ht.1 ht.2,jh (by simp; omega)];refine ĩ (List.replicate most ()) (fun i=>mo L N to i) _ (by simp[mo,exL]) (fun i a hi ha kn=>?_) (fun kn=>?_)
 ·try dsimp only
  unfold JF;rw[List.length_replicate] at hi;have e1:ilt (i:Int) (most:Int)=true:=decide_eq_true (by omega);rw[Ø e1,Ò,Hj]
  have e2:(((i+1:Nat):Int)-1)=(i:Int):=by omega
  rw[e2,Ô (by omega) (by omega),show î (mo L N to i)=((i+1:Nat):Int) by unfold î; rw[Hj],ŭ (by omega) (by omega),Int.toNat_natCast,i9 (Hk (Nat.le_refl i)),okN (by omega),Int.toNat_natCast];rw[ahu];refine(WY (by omega) _ (fun v kk=>by rw[Ò,List.length_replicate])).trans ?_;refine(aeD hS (B:=i*4503599627370496) (by omega) (by omega) (CF hS ht i (by omega)) (Zm _ _) _).trans ?_;rw[ċ (Õ (by simp only[Hj,List.length_singleton]; omega)),Ô (by omega) (by omega)];congr 2;unfold mo;rw[List.range_succ (n:=i+1),List.map_append];rfl
 ·try dsimp only
  unfold JF;rw[List.length_replicate];have e1:ilt (most:Int) (most:Int)=false:=decide_eq_false (by omega);rw[Í e1]
def Ri (L:List Lk) (x:List Int) (good:Int→Bool) (u sum:Int):Option Nat:=L.findIdx? fun l=>l.1==u&&(decide (gv x l.2.1≠Ŝ)&&good (sum+l.2.2+gv x l.2.1))
def oM (L:List Lk) (rest:Nat→List Int) (good:Int→Bool):Nat→Int→Int→List Int→List Int
 |0,_,_,out=>out
 |k+1,u,sum,out=>match Ri L (rest k) good u sum with
  |some i=>oM L rest good k (L[i]?.getD (0,0,0)).2.1 (sum+(L[i]?.getD (0,0,0)).2.2) (out++[(i:Int)])
  |none=>oM L rest good k u sum out
def folL {ρ:Type} (good:Int→Bool) (c0:Int) (c1:List (List Int)) (c2:List Lk) (c3:Int) (v0:Int) (v1:Int) (v2:Int) (v3:List Int) (kn:Int→Int→Int→List Int→Option ρ) (k0:Int×Int×List Int→Option ρ):Option ρ :=
 ifb (ilt v2 c3) (ě c2 v2 fun e7=>ifb (ieq e7.1 v0) (ck (c0-(1:Int)) fun n8=>ě c1 n8 fun e9=>ě e9 e7.2.1 fun e10=>ifb (ine e10 (1152921504606846976:Int)) (ck (v1+e7.2.2) fun n11=>ck (c0-(1:Int)) fun n12=>ě c1 n12 fun e13=>ě e13 e7.2.1 fun e14=>ck (n11+e14) fun n15=>ifb (good n15) (ä (ê ((List.length v3)+(List.length ([v2])))) (ck (v1+e7.2.2) fun n16=>k0 (e7.2.1,n16,(v3++([v2]))))) (ck (v2+(1:Int)) fun n17=>kn v0 v1 n17 v3)) (ck (v2+(1:Int)) fun n18=>kn v0 v1 n18 v3)) (ck (v2+(1:Int)) fun n19=>kn v0 v1 n19 v3)) (k0 (v0,v1,v3))
def ajq {ρ:Type} (hS:jA L N) (good:Int→Bool) {rest:List (List Int)} {k:Nat} {x:List Int} (hr:rest[k]?=some x) (hk:k≤100) (hx:Lim 1000000000000000000 x) (hxl:x.length=N) {u sum:Int} (hs : -1000000000000000000≤sum∧sum≤1000000000000000000) {out:List Int} (ho:out.length≤1000)
 (K:Int×Int×List Int→Option ρ):Ë (fun(v:Int×Int×Int×List Int) kk=>folL good ((k+1:Nat):Int) rest L (Û L) v.1 v.2.1 v.2.2.1 v.2.2.2 (fun a b c d=>kk (a,b,c,d)) K) (u,sum,(0:Int),out) =
  match Ri L x good u sum with|some i=>K ((L[i]?.getD (0,0,0)).2.1,sum+(L[i]?.getD (0,0,0)).2.2,out++[(i:Int)])|none=>K (u,sum,out):=by
 have hl3:=hS.len;refine ĝ (fun v=>∃i:Nat,i≤L.length∧v=(u,sum,(i:Int),out)∧∀j l,j<i→L[j]?=some l→(l.1==u&&(decide (gv x l.2.1≠Ŝ)&&good (sum+l.2.2+gv x l.2.1)))=false) (fun v=>L.length-v.2.2.1.toNat) ?_ ⟨0,by omega,rfl,fun j l h=>by omega⟩;rintro v ⟨i,hi,rfl,hp⟩
 have e0:(((k+1:Nat):Int)-1)=(k:Int):=by omega
 rcases dg i L.length with h2|h2
 ·have hl:L[i]?=some L[i]:=cF h2;generalize L[i]=l at hl;have hm:=cO hl;have h1:=hS.inr l hm;have h4:=hS.most l hm
  have hstep:(l.1==u&&(decide (gv x l.2.1≠Ŝ)&&good (sum+l.2.2+gv x l.2.1)))=false→∃y,(∃i:Nat,i≤L.length∧y=(u,sum,(i:Int),out)∧∀j l,j<i→L[j]?=some l→(l.1==u&&(decide (gv x l.2.1≠Ŝ)&&good (sum+l.2.2+gv x l.2.1)))=false)∧(L.length-y.2.2.1.toNat<L.length-((u,sum,(i:Int),out):Int×Int×Int×List Int).2.2.1.toNat)∧y=(u,sum,(i:Int)+1,out):=fun hf =>
   ⟨_,⟨i+1,h2,by rw[show((i+1:Nat):Int)=(i:Int)+1 by push_cast; rfl],fun j m hj hm=>by
    rcases gM.1 hj with h|rfl
    ·exact hp j m h hm
    ·rw[hl] at hm; cases hm; exact hf⟩,by simp; omega,rfl⟩
  by_cases hf:(l.1==u&&(decide (gv x l.2.1≠Ŝ)&&good (sum+l.2.2+gv x l.2.1)))=true
  ·refine .inl fun kn=>?_
   have hfi:Ri L x good u sum=some i:=by
    unfold Ri;rw[List.findIdx?_eq_some_iff_getElem];obtain⟨hh,rfl⟩:=List.getElem?_eq_some_iff.1 hl;exact⟨h2,hf,fun j hj=>by have:=hp j _ hj (List.getElem?_eq_getElem (by omega)); rw[this]; simp⟩
   rw[hfi];simp only[Bool.and_eq_true,beq_iff_eq,decide_eq_true_eq] at hf;have h5:=hx _ hf.2.1;dsimp only;unfold folL
   rw[Ð h2,È hl,Ø (by simp[hf.1]),e0,Ô (by omega) (by omega),È hr,oL h1.2.1 (by omega),Ø (bne_iff_ne.2 hf.2.1),Ô (by omega) (by omega),Ô (by omega) (by omega),È hr,oL h1.2.1 (by omega),Ô (by omega) (by omega),Ø hf.2.2,
    ċ (Õ (by simp; omega)),Ô (by omega) (by omega),hl]
   rfl
  ·have hf':=Bool.not_eq_true _▸hf;obtain⟨y,hy1,hy2,rfl⟩:=hstep hf';refine .inr ⟨_,hy1,hy2,fun kn=>?_⟩;dsimp only;unfold folL;rw[Ð h2,È hl,Ì h2 (by omega)]
   by_cases g1:l.1=u
   ·rw[Ø (by simp[g1]),e0,Ô (by omega) (by omega),È hr,oL h1.2.1 (by omega)]
    by_cases g2:gv x l.2.1=Ŝ
    ·rw[Í (by rw[g2]; rfl)]
    ·have h5:=hx _ g2
     have g3:good (sum+l.2.2+gv x l.2.1)=false:=by simpa[g1,g2] using hf'
     rw[Ø (bne_iff_ne.2 g2),Ô (by omega) (by omega),Ô (by omega) (by omega),È hr,oL h1.2.1 (by omega),Ô (by omega) (by omega),Í g3]
   ·rw[Í (by simpa using g1)]
 ·refine .inl fun kn=>?_
  obtain rfl:i=L.length:=by omega
  have hfi:Ri L x good u sum=none:=by
   unfold Ri;rw[List.findIdx?_eq_none_iff];intro l hl;obtain⟨j,hj,rfl⟩:=List.mem_iff_getElem.1 hl;exact hp j _ hj (List.getElem?_eq_getElem hj)
  rw[hfi];dsimp only;unfold folL;rw[Þ]
def folM {ρ:Type} (good:Int→Bool) (c0:List (List Int)) (c6:List Lk) (v0:Int) (v1:Int) (v2:Int) (v3:List Int) (kn:Int→Int→Int→List Int→Option ρ) (k0:List Int→Option ρ):Option ρ :=
 ifb (igt v1 (0:Int)) (Ë (fun(v22:Int×Int×Int×List Int) kk27=>folL good v1 c0 c6 (Û c6) v22.1 v22.2.1 v22.2.2.1 v22.2.2.2 (fun u23 u24 u25 u26=>kk27 (u23,u24,u25,u26)) (fun z20=>ck (v1-(1:Int)) fun n21=>kn z20.1 n21 z20.2.1 z20.2.2)) (v0,v2,(0:Int),v3)) (k0 v3)
def ajp {ρ:Type} (hS:jA L N) (good:Int→Bool) {rest:List (List Int)} {R:Nat→List Int} {k0:Nat} (hk:k0≤100) (hr:∀k,k<k0→rest[k]?=some (R k)) (hx:∀k,k<k0→Lim 900000000000000000 (R k)∧(R k).length=N) (u:Int) (K:List Int→Option ρ) :
 Ë (fun(v:Int×Int×Int×List Int) kk=>folM good rest L v.1 v.2.1 v.2.2.1 v.2.2.2 (fun a b c d=>kk (a,b,c,d)) K) (u,(k0:Int),(0:Int),[])=K (oM L R good k0 u 0 []):=by
 have key:=uG (f:=fun(v:Int×Int×Int×List Int) kk=>folM good rest L v.1 v.2.1 v.2.2.1 v.2.2.2 (fun a b c d=>kk (a,b,c,d)) K) (F:=fun v=>K (oM L R good v.2.1.toNat v.1 v.2.2.1 v.2.2.2))
  (fun v=>∃k:Nat,v.2.1=k∧k≤k0∧(-(((k0-k:Nat):Int)*4503599627370496)≤v.2.2.1∧v.2.2.1≤((k0-k:Nat):Int)*4503599627370496)∧v.2.2.2.length≤k0-k) (fun v=>v.2.1.toNat) (fun v hv kn hk=>?_) (x:=(u,(k0:Int),0,[])) ⟨k0,rfl,cG _,by simp,by simp⟩
 ·rw[key]; simp
 ·obtain⟨u,k',sum,out⟩:=v;obtain⟨k,e,h1,h2,h3⟩:=hv;dsimp only at e h2 h3 hk ⊢;subst e;rw[Int.toNat_natCast] at hk ⊢;unfold folM
  cases k with
  |zero =>
   rw[Í (by rfl)];rfl
  |succ k =>
   rw[Ø (decide_eq_true (by omega))];have hh:=hx k (by omega)
   have hlim:Lim 1000000000000000000 (R k):=fun v hv=>by have:=hh.1 v hv; omega
   refine(ajq hS good (hr k (by omega)) (by omega) hlim hh.2 (by omega) (by omega) _).trans ?_;unfold oM
   have e0:(((k+1:Nat):Int)-1)=(k:Int):=by omega
   cases hn:Ri L (R k) good u sum with
   |none =>
    dsimp only;rw[e0,Ô (by omega) (by omega),hk _ ⟨k,rfl,by omega,by dsimp only; omega,by dsimp only; omega⟩ (by simp)];simp
   |some i =>
    have hi:i<L.length:=by
     unfold Ri at hn;exact(List.findIdx?_eq_some_iff_getElem.1 hn).1
    have hl:L[i]?=some L[i]:=List.getElem?_eq_getElem hi;have h4:=hS.most L[i] (List.getElem_mem _);dsimp only;rw[hl];simp only[Option.getD_some];rw[e0,Ô (by omega) (by omega),hk _ ⟨k,rfl,by omega,by dsimp only; omega,by simp; omega⟩ (by simp)];simp
end
def BG (L:List Lk):Int→Int→List Int→Int×Int×Bool
 |u,s,[]=>(u,s,true)
 |u,s,i::t=>if (L[i.toNat]?.getD (0,0,0)).1=u then BG L (L[i.toNat]?.getD (0,0,0)).2.1 (s+(L[i.toNat]?.getD (0,0,0)).2.2) t else(0,0,false)
def BD (L:List Lk) (i:Int):Bool:=decide (i<0)||decide ((L.length:Int)≤i)
def lP (L:List Lk) (l:List Int):Int:=if 80<l.length then 2 else if l.any (BD L) then 1 else 0
def aba (u:Int) (w:Int×Int×Bool):Int:=if w.2.2=true∧w.1=u∧w.2.1<0 then 0 else 8
def Ţ (L:List Lk) (l:List Int):Int :=
 if lP L l≠0 then lP L l else match l with
 |[]=>8
 |i::_=>aba (L[i.toNat]?.getD (0,0,0)).1 (BG L (L[i.toNat]?.getD (0,0,0)).1 0 l)
section
variable {L:List Lk} {N:Nat}
def acq (N:Int) (hL:L.length≤1000) (l:List Int):ww (N,L) l=some (lP L l):=by
 unfold ww Cl lP;dsimp only;rw[Ò]
 by_cases h:80<l.length
 ·rw[Ø (decide_eq_true (by omega)),if_pos h]
 ·rw[Í (decide_eq_false (by omega)),if_neg h,←Ò l];refine(Ĺ l (BD L) (fun z=>ifb (ige z 0) (some 1) (some 0)) (some 1) (some 0) (fun j=>by rw[show ige (j:Int) 0=true from decide_eq_true (by omega)]; rfl) (fun i a hi ha kn=>?_) (fun kn=>?_)).trans ?_
  ·try dsimp only
   unfold nk BD;rw[Ð hi,È ha,Ì hi (by omega),Ò,Ď,Ď]
   by_cases h1:a<0
   ·simp[ilt,h1]
   ·by_cases h2:(L.length:Int)≤a
    ·simp[ilt,ige,h1,h2]
    ·simp[ilt,ige,h1,h2]
  ·try dsimp only
   unfold nk;rw[Þ]
  ·cases l.any (BD L)<;>rfl
def Zf {l:List Int} (h:lP L l=0):l.length≤80∧∀i∈l,0≤i∧i.toNat<L.length:=by
 unfold lP at h
 split at h
 ·omega
 ·rename_i h1
  split at h
  ·omega
  ·rename_i h2;refine⟨by omega,fun i hi=>?_⟩;have:=dM.1 (eh.2 h2) i hi;simp[BD] at this;omega
def aiD (hS:jA L N) (u:Int) {l:List Int} (h:lP L l=0):JQ ((N:Int),L) u l=some (BG L u 0 l):=by
 obtain⟨hl,hi⟩:=Zf h;unfold JQ RT;dsimp only
 have:=uG (f:=fun(v7:Int×Int×Int) kk11=>vH l (Û l) L v7.1 v7.2.1 v7.2.2 (fun u8 u9 u10=>kk11 (u8,u9,u10)) (fun z5=>some (z5.1,z5.2.1,z5.2.2)) (fun z6=>some (z6.1,z6.2,true)))
  (F:=fun v=>some (BG L v.1 v.2.1 (l.drop v.2.2.toNat))) (fun v=>∃i:Nat,v.2.2=i∧i≤l.length∧(-(i*4503599627370496)≤v.2.1∧v.2.1≤i*4503599627370496)) (fun v=>l.length-v.2.2.toNat) (fun v hv kn hk=>?_) (x:=(u,(0:Int),(0:Int))) ⟨0,rfl,by omega,by simp⟩
 ·exact this
 ·obtain⟨w,s,n⟩:=v;obtain⟨i,e,h1,h2⟩:=hv;dsimp only at e h2 hk ⊢;subst e;rw[Int.toNat_natCast] at hk ⊢;unfold vH;rcases Nat.lt_or_ge i l.length with h3|h3
  ·have ha:l[i]?=some l[i]:=List.getElem?_eq_getElem h3;have hd:l.drop i=l[i]::l.drop (i+1):=List.drop_eq_getElem_cons h3;rw[hd];have hx:=hi l[i] (List.getElem_mem _);generalize l[i]=a at ha hx;have hg:L[a.toNat]?=some L[a.toNat]:=List.getElem?_eq_getElem hx.2;have hm:=hS.most _ (List.mem_of_getElem? hg);generalize L[a.toNat]=x at hg hm;rw[Ð h3,È ha,Qn hx.1 hg];unfold BG;rw[hg];simp only[Option.getD_some]
   by_cases hc:x.1=w
   ·rw[Í (by rw[hc]; exact bne_self_eq_false' _),if_pos hc,Ô (by omega) (by omega),Ì h3 (by omega),hk _ ⟨i+1,by push_cast; rfl,h3,by dsimp only; push_cast; omega⟩ (by simp; omega)];simp
   ·rw[Ø (bne_iff_ne.2 hc),if_neg hc]
  ·obtain rfl:i=l.length:=by omega
   rw[Þ,List.drop_length];rfl
def aeO {ρ α:Type} (x:α) (t:List α) (f:α→Option ρ):ě (x::t) (0:Int) f=f x:=rfl
def Ps (hS:jA L N) (l:List Int):nt ((N:Int),L) l=some (Ţ L l):=by
 have hl3:=hS.len;unfold nt sX Ţ;rw[jL hS,À,Í (by rfl),acq _ (by omega),À]
 by_cases h:lP L l=0
 ·rw[Í (by rw[h]; rfl),if_neg (by simp[h])]
  cases l with
  |nil=>rw[Ò]; rfl
  |cons i t =>
   have hx:=(Zf h).2 i (by simp);have hg:L[i.toNat]?=some L[i.toNat]:=List.getElem?_eq_getElem hx.2;generalize L[i.toNat]=x at hg;rw[Ò,Í (beq_eq_false_iff_ne.2 (by simp; omega)),aeO,Qn hx.1 hg,aiD hS x.1 h,À];dsimp only;rw[hg];dsimp only[Option.getD_some];generalize BG L x.1 0 (i::t)=w;obtain⟨e,sum,ok⟩:=w;unfold aba;dsimp only
   cases ok with
   |false=>rw[Ø (by rfl),if_neg (by simp)]
   |true =>
    rw[Í (by rfl)]
    by_cases h2:e=x.1
    ·rw[Í (by rw[h2]; exact bne_self_eq_false' _)]
     by_cases h3:sum<0
     ·rw[Í (decide_eq_false (by omega)),if_pos ⟨rfl,h2,h3⟩]
     ·rw[Ø (decide_eq_true (by omega)),if_neg (fun h=>h3 h.2.2)]
    ·rw[Ø (bne_iff_ne.2 h2),if_neg (fun h=>h2 h.2.1)]
 ·rw[Ø (bne_iff_ne.2 h),if_pos h]
end
def acG {L:List Lk} {N:Nat} (h:jA L N) (ho:kZ L N=true):ov ((N:Int),L)=some ([],5):=by
 have hN:=h.n60;unfold ov Ee;rw[jL h,À,Í (by rfl),vk h.links h.n1 (by omega),À,if_pos ho];rfl
def oS (b:ë) (c:Cmp) (x:List Int):Int:=gv (0::x) (cx b c)-gv (0::x) (cy b c)
def agc (b:ë) (i:Int) (x:List Int):(Int×Int)×Int :=
 if (ů b i).2≠0 then((0,0),(ů b i).2) else if !Ŭ b x then((0,0),1) else aab b (ů b i).1 (oS b (ů b i).1 x,oS b (ů b i).1 x)
def gv_bd {x:List Int} {m:Int} (hm:0≤m) (h:∀a∈x,-m≤a∧a≤m) (v:Int) : -m≤gv x v∧gv x v≤m:=by
 unfold gv
 cases hv:x[v.toNat]? with
 |none=>simp only[Option.getD_none]; omega
 |some a=>simp only[f6]; exact h a (cO hv)
def ahX {b:ë} {x:List Int} (hx:Ŭ b x=true) (c:Cmp):(∀v,-4503599627370496≤gv (0::x) v∧gv (0::x) v≤4503599627370496)∧-9007199254740992≤oS b c x∧oS b c x≤9007199254740992:=by
 have h:=(If.1 hx).2
 have hb:∀v,-4503599627370496≤gv (0::x) v∧gv (0::x) v≤4503599627370496:=gv_bd (by omega) fun a ha=>by
  rcases cN.1 ha with rfl|ha
  ·omega
  ·exact h a ha
 refine⟨hb,?_⟩;have h1:=hb (cx b c);have h2:=hb (cy b c);unfold oS;omega
def ah1 {b:ë} (h:In b) (i:Int) (x:List Int):uT b i x=some (agc b i x):=by
 unfold uT Mr agc;rw[agx h,À]
 by_cases hw:(ů b i).2=0
 ·obtain⟨g,hm,_,_⟩:=XL hw;have hN:=g.nodes;have hn:=(iO _).1 (g.nums hm);have ha:=ţ hn.2.2.2.2.2.1;have hb:=ţ hn.2.2.2.2.2.2;rw[Í (by simp[ine,hw]),if_neg (show ¬((ů b i).2≠0) from fun h=>h hw),Rm g,À,Qi (by dsimp only; omega),À];rw[show(decide (x.length=(b,Ê b,(((Ê b).length:Int)+1,Ζ b),C5 b).2.1.length)&&x.all fun n=>inP n (-4503599627370496) 4503599627370496)=Ŭ b x from rfl]
  cases hl:Ŭ b x with
  |false=>rfl
  |true =>
   obtain⟨hv,hd⟩:=ahX hl (ů b i).1;have hlen:=(If.1 hl).1;have rx:=(Zt g hm).rng;have ry:=(TI g hm).rng
   have hol:î ([0]++x)=(((Ê b).length+1:Nat):Int):=by
    show(((([0]++x:List Int)).length:Nat):Int)=_;simp only[cJ,dG];omega
   rw[if_pos rfl,Í (by rfl),Õ (by simp only[List.length_singleton]; omega),Am.iff_true,ta (by omega) (by omega),À,af3 _ _ _ (by dsimp only; omega),À];dsimp only;rw[show atP (Ê b) (û (ů b i).1.2.2.1 (ů b i).1.2.2.2.1) (ů b i).1.2.1=cx b (ů b i).1 from rfl,hol,ŭ rx.1 rx.2,jh (by simp only[List.length_append,List.length_singleton]; omega),ta (by omega) (by omega),À,af3 _ _ _ (by dsimp only; omega),À];dsimp only;rw[show atP (Ê b) (û (ů b i).1.2.2.2.1 (ů b i).1.2.2.1) (ů b i).1.2.1=cy b (ů b i).1 from rfl,ŭ ry.1 ry.2,jh (by simp only[List.length_append,List.length_singleton]; omega)];rw[show gv ([0]++x) (cx b (ů b i).1)=gv (0::x) (cx b (ů b i).1) from rfl,show gv ([0]++x) (cy b (ů b i).1)=gv (0::x) (cy b (ů b i).1) from rfl];rw[show gv (0::x) (cx b (ů b i).1)-gv (0::x) (cy b (ů b i).1)=oS b (ů b i).1 x from rfl,Ô (by omega) (by omega),agJ g.size g.film (g.cmp hm) (by dsimp only; omega) (by dsimp only; omega),À];rfl
 ·rw[Ø (by simp[ine,hw]),if_pos hw]
def FI (b:ë) (n:Int×Int):Prop:=∃g∈b.2.1,g.1=n.1∧n.2∈ß b g
def EW {b:ë} (h:Ł b) {n:Int×Int}:Jm b n.1 n.2≠0↔FI b n:=by
 unfold Jm;constructor
 ·intro hne
  cases hx:jg (Ê b) n.1 n.2 with
  |none=>rw[hx] at hne; simp at hne
  |some j =>
   have hm:=List.mem_of_getElem? (jD hx).2;unfold Ê at hm;obtain⟨g,hg,hd⟩:=List.mem_flatMap.1 hm;obtain⟨d,hd,e⟩:=List.mem_map.1 hd;simp only[Prod.mk.injEq] at e;obtain⟨e1,rfl⟩:=e;exact⟨g,hg,e1,hd⟩
 ·rintro⟨g,hg,e,hd⟩;obtain⟨i,hi,rfl⟩:=List.mem_iff_getElem.1 hg;obtain⟨k,hk,e2⟩:=List.mem_iff_getElem.1 hd;rw[←e,Rg h (List.getElem?_eq_getElem hi) (by rw[List.getElem?_eq_getElem hk,e2])];dsimp only;omega
def afg (b:ë) (n:Int×Int) (g:ò) {d:Int} (hd:d∈ß b g):d∈ß (Ő b n) g:=by
 unfold ß at hd ⊢;rw[oU] at hd ⊢;unfold Fu Ő at *;simp only[List.mem_append,List.mem_map,List.mem_filter] at hd ⊢;rcases hd with(h|h)|⟨m,⟨h1,h2⟩,h3⟩
 ·exact .inl (.inl h)
 ·exact .inl (.inr h)
 ·exact .inr ⟨m,⟨.inl h1,h2⟩,h3⟩
def WH {b:ë} (n:Int×Int) (h':Ł (Ő b n)):FI (Ő b n) n:=by
 have hu:=h'.looks n (by simp[Ő]);unfold HF at hu
 split at hu
 ·omega
 obtain⟨g,hg,_⟩:=Ga h' hu;obtain⟨hm,e⟩:=Τ hg;refine⟨g,hm,e,?_⟩;unfold ß;rw[oU];unfold Fu Ő;simp only[List.mem_append,List.mem_map,List.mem_filter];exact .inr ⟨n,⟨.inr (by simp),by simp[e]⟩,rfl⟩
def C4 {b:ë} {n:Int×Int} (e:(iB b n).2=0):(iB b n=(b,0)∧Jm b n.1 n.2≠0)∨(iB b n=(Ő b n,0)∧Ł (Ő b n)∧Jm b n.1 n.2=0):=by
 unfold iB at e ⊢
 split
 ·rename_i h; exact .inl ⟨rfl,h⟩
 ·rename_i h1;rw[if_neg h1] at e
  split
  ·rename_i h2; rw[if_pos h2] at e; exact absurd e h2
  ·rename_i h2; exact .inr ⟨rfl,(ö _).1 (by simpa using h2),by simpa using h1⟩
def UD:∀{ns:List (Int×Int)} {b:ë},(oV b ns).2=0→∀n,FI b n→FI (oV b ns).1 n
 |[],b,_,n,hn=>hn
 |m::t,b,e,n,hn=>by
  unfold oV at e ⊢
  split
  ·rename_i h1; rw[if_pos h1] at e; exact absurd e h1
  ·rename_i h1;rw[if_neg h1] at e;refine UD e n ?_;rcases C4 (by simpa using h1) with⟨h,_⟩|⟨h,_,_⟩
   ·rw[h]; exact hn
   ·rw[h];obtain⟨g,hg,e1,hd⟩:=hn;exact⟨g,hg,e1,afg b m g hd⟩
def UC:∀{ns:List (Int×Int)} {b:ë},Ł b→(oV b ns).2=0→∀n∈ns,FI (oV b ns).1 n
 |[],b,_,_,n,hn=>by simp at hn
 |m::t,b,hg,e,n,hn=>by
  unfold oV at e ⊢
  split
  ·rename_i h1; rw[if_pos h1] at e; exact absurd e h1
  ·rename_i h1;rw[if_neg h1] at e
   have h1':(iB b m).2=0:=by simpa using h1
   rcases cN.1 hn with rfl|hn
   ·refine UD e n ?_;rcases C4 h1' with⟨h,h2⟩|⟨h,h2,_⟩
    ·rw[h]; exact(EW hg).1 h2
    ·rw[h]; exact WH n h2
   ·exact UC (Un hg h1') e n hn
def aev {b:ë} {n:Int×Int} {f:Int→Int→Int} {z:Int}:Hist (Ő b n) f z↔Hist b f z :=
 ⟨fun h=>⟨fun g hg=>by have:=h.gauge g hg; exact⟨this.hi,this.lo,this.down,this.loss⟩,h.cmp⟩,fun h=>⟨fun g hg=>by have:=h.gauge g hg; exact⟨this.hi,this.lo,this.down,this.loss⟩,h.cmp⟩⟩
def aeY {b:ë} (h:Ł b) {x:List Int} (hf:Pf b x=true):kZ (Ζ b) ((Ê b).length+1)=true:=by
 have:=h.sys.n60;exact(jX h.sys.links (by omega)).2 ⟨_,MY.1 (show Pg (Ζ b) (0::x)=true from hf)⟩
inductive Wk (L:List Lk) (to:Int):Nat→Int→Int→Prop
 |nil:Wk L to 0 to 0
 |step {k:Nat} {v w m d:Int}:(v,w,m)∈L→Wk L to k w d→Wk L to (k+1) v (m+d)
section
variable {L:List Lk} {N:Nat}
def Wk.snoc {u v m:Int} (hl:(u,v,m)∈L):∀{k:Nat} {s d:Int},Wk L u k s d→Wk L v (k+1) s (d+m):=by
 intro k s d h
 induction h with
 |nil =>
  have:=Wk.step hl (Wk.nil (L:=L) (to:=v))
  have e:m+0=0+m:=by omega
  rw[e] at this;exact this
 | @step k a w m' d h1 h2 ih =>
  have:=Wk.step h1 ih
  have e:m'+(d+m)=m'+d+m:=by omega
  rw[e] at this;exact this
def Wk.bd (hS:jA L N) {t:Int} {k:Nat} {s d:Int} (h:Wk L t k s d) : -(k*4503599627370496)≤d∧d≤k*4503599627370496:=by
 induction h with
 |nil=>omega
 | @step k v w m d h1 h2 ih =>
  have:=hS.most _ h1;dsimp only at this;push_cast;omega
def Zh {v:Int} (h0:0≤v) (h1:v<N):gv (List.replicate N Ŝ) v=Ŝ:=by
 unfold gv;rw[List.getElem?_replicate,if_pos (by omega)];rfl
def aha {B:Int} (hB:B≤1100000000000000000) {x:List Int} (hx:Lim B x) (v:Int):gv x v≤Ŝ:=by
 by_cases h:gv x v=Ŝ
 ·omega
 ·have:=hx v h; unfold Ŝ; omega
def E7 (hS:jA L N) {B:Int} (hB:0≤B) (hB2:B≤1000000000000000000) {x:List Int} (hx:Lim B x) {v:Int} (h0:0≤v) (h1:v<N) :
 ∀(M:List Lk),(∀l∈M,l∈L)→∀y:List Int,y.length=N→Lim (B+4503599627370496) y →
  gv (M.foldl (jw x) y) v≤gv y v∧(∀w m,(v,w,m)∈M→gv x w≠Ŝ→gv (M.foldl (jw x) y) v≤m+gv x w) ∧
  (gv (M.foldl (jw x) y) v=gv y v∨∃w m,(v,w,m)∈M∧gv x w≠Ŝ∧gv (M.foldl (jw x) y) v=m+gv x w)
 |[],_,y,_,_=>⟨dP _,fun _ _ h=>by simp at h,.inl rfl⟩
 |l::M,hM,y,hl,hy=>by
  rw[gg];have hlm:=hM l (by simp);obtain⟨i1,i2,i3⟩:=E7 hS hB hB2 hx h0 h1 M (fun m hm=>hM m (by simp[hm])) (jw x y l) (by rw[Hl,hl]) (aaJ hS hB hB2 hx hy hl hlm);have hr:=hS.inr l hlm;have hyF:=aha (by omega) hy
  -- the element behind one link
  have key:gv (jw x y l) v≤gv y v∧(l.1=v→gv x l.2.1≠Ŝ→gv (jw x y l) v≤l.2.2+gv x l.2.1)∧(gv (jw x y l) v=gv y v∨(l.1=v∧gv x l.2.1≠Ŝ∧gv (jw x y l) v=l.2.2+gv x l.2.1)):=by
   unfold jw
   by_cases hf:gv x l.2.1=Ŝ
   ·rw[if_pos hf];exact⟨dP _,fun _ h=>absurd hf h,.inl rfl⟩
   ·rw[if_neg hf,sr hr.1.1 h0 (by omega)]
    by_cases hv:v=l.1
    ·rw[if_pos hv,hv];refine⟨by omega,fun _ _=>by omega,?_⟩
     by_cases hc:gv y l.1≤l.2.2+gv x l.2.1
     ·exact .inl (by omega)
     ·exact .inr ⟨rfl,hf,by omega⟩
    ·rw[if_neg hv];exact⟨dP _,fun h=>absurd h.symm hv,.inl rfl⟩
  obtain⟨k1,k2,k3⟩:=key;refine⟨by omega,fun w m hm hw=>?_,?_⟩
  ·rcases cN.1 hm with h|h
   ·subst h;have:=k2 rfl hw;dsimp only at this;omega
   ·exact i2 w m h hw
  ·rcases i3 with h|⟨w,m,h,hw,e⟩
   ·rcases k3 with h'|⟨h',hw,e⟩
    ·exact .inl (h.trans h')
    ·refine .inr ⟨l.2.1,l.2.2,?_,hw,h.trans e⟩;rw[←h']; simp
   ·exact .inr ⟨w,m,by simp[h],hw,e⟩
def TC (hS:jA L N) {to:Int} (ht:0≤to∧to<N):∀k:Nat,k≤200→∀v:Int,0≤v→v<N →
 (gv (exL L N to k) v≠Ŝ→Wk L to k v (gv (exL L N to k) v))∧∀d,Wk L to k v d→gv (exL L N to k) v≤d∧gv (exL L N to k) v≠Ŝ
 |0,_,v,h0,h1=>by
  unfold exL;rw[sr ht.1 h0 (by simp; omega)]
  by_cases hv:v=to
  ·subst hv;rw[if_pos rfl];refine⟨fun _=>.nil,fun d hd=>?_⟩;cases hd;exact⟨dP _,by decide⟩
  ·rw[if_neg hv,Zh h0 h1];refine⟨fun h=>absurd rfl h,fun d hd=>?_⟩;cases hd;exact absurd rfl hv
 |k+1,hk,v,h0,h1=>by
  have hlim:=CF hS ht k (by omega);obtain⟨i1,i2,i3⟩:=E7 hS (B:=k*4503599627370496) (by omega) (by omega) hlim h0 h1 L (fun _ h=>h) (List.replicate N Ŝ) (by simp) (MB (by omega));have ih:=TC hS ht k (by omega);unfold exL Qz;refine⟨fun hf=>?_,fun d hd=>?_⟩
  ·rcases i3 with h|⟨w,m,h,hw,e⟩
   ·rw[Zh h0 h1] at h; exact absurd h hf
   ·rw[e];have hwr:=(hS.inr _ h).2;exact .step h ((ih w hwr.1 hwr.2).1 hw)
  ·have hb:=Wk.bd hS hd
   cases hd with
   | @step k' v' w m d h h2 =>
    have hwr:=(hS.inr _ h).2;obtain⟨j1,j2⟩:=(ih w hwr.1 hwr.2).2 d h2;have:=i2 w m h j2;refine⟨by omega,?_⟩
    have hq:(m+d)≤1000000000000000000:=by push_cast at hb; omega
    intro hF;rw[hF] at this;unfold Ŝ at this;omega
def ahv (hS:jA L N) {to:Int} (ht:0≤to∧to<N) {k:Nat} (hk:k+1≤200) {u:Int} (hu:0≤u∧u<N) (hf:gv (exL L N to (k+1)) u≠Ŝ) :
 ∃w m,(u,w,m)∈L∧gv (exL L N to k) w≠Ŝ∧gv (exL L N to (k+1)) u=m+gv (exL L N to k) w:=by
 have hlim:=CF hS ht k (by omega);obtain⟨_,_,i3⟩:=E7 hS (B:=k*4503599627370496) (by omega) (by omega) hlim hu.1 hu.2 L (fun _ h=>h) (List.replicate N Ŝ) (by simp) (MB (by omega));have e:exL L N to (k+1)=L.foldl (jw (exL L N to k)) (List.replicate N Ŝ):=rfl;rw[e] at hf ⊢;rcases i3 with h|h
 ·rw[Zh hu.1 hu.2] at h; exact absurd h hf
 ·exact h
def MV (hS:jA L N) {to:Int} (ht:0≤to∧to<N) (good:Int→Bool):∀(k:Nat),k≤200→∀(u sum:Int) (out:List Int),0≤u→u<N→gv (exL L N to k) u≠Ŝ→good (sum+gv (exL L N to k) u)=true →
 ∃q,oM L (exL L N to) good k u sum out=out++q∧q.length=k∧(∀i∈q,BD L i=false)∧∃s,BG L u sum q=(to,s,true)∧good s=true
 |0,_,u,sum,out,h0,h1,hf,hg=>by
  have hu:u=to:=by
   have hw:=((TC hS ht 0 (by omega) u h0 h1).1 hf);generalize gv (exL L N to 0) u=y at hw;cases hw;rfl
  subst hu
  have e:gv (exL L N u 0) u=0:=by
   unfold exL;rw[sr ht.1 h0 (by simp; omega),if_pos rfl]
  rw[e,gJ] at hg;exact⟨[],by simp[oM],rfl,by simp,sum,rfl,hg⟩
 |k+1,hk,u,sum,out,h0,h1,hf,hg=>by
  obtain⟨w,m,hl,hw,e⟩:=ahv hS ht hk ⟨h0,h1⟩ hf;unfold oM Ri
  cases hn:L.findIdx? (fun l=>l.1==u&&(decide (gv (exL L N to k) l.2.1≠Ŝ)&&good (sum+l.2.2+gv (exL L N to k) l.2.1))) with
  |none =>
   have:=dF.1 hn (u,w,m) hl;rw[e,←Int.add_assoc] at hg;simp[hw,hg] at this
  |some i =>
   obtain⟨hi,hp,_⟩:=List.findIdx?_eq_some_iff_getElem.1 hn;have hg2:L[i]?=some L[i]:=List.getElem?_eq_getElem hi;have hm:=List.mem_of_getElem? hg2;generalize L[i]=x at hp hg2 hm;simp only[Bool.and_eq_true,beq_iff_eq,decide_eq_true_eq] at hp;obtain⟨p1,p2,p3⟩:=hp;have hr:=(hS.inr x hm).2;obtain⟨q,q1,q2,q3,s,q4,q5⟩:=MV hS ht good k (by omega) x.2.1 (sum+x.2.2) (out++[(i:Int)]) hr.1 hr.2 p2 p3;dsimp only;rw[hg2];simp only[Option.getD_some];refine⟨(i:Int)::q,by rw[q1]; simp,by simp[q2],fun j hj=>?_,s,?_,q5⟩
   ·rcases cN.1 hj with rfl|hj
    ·simp[BD]; omega
    ·exact q3 j hj
   ·unfold BG;rw[Int.toNat_natCast,hg2];simp only[Option.getD_some];rw[if_pos p1];exact q4
def ahc {P:Int→Prop} {B:Int} (h:∃d,P d) (hB:∀d,P d→B≤d):∃d,P d∧∀e,P e→d≤e:=by
 obtain⟨d0,h0⟩:=h
 have:∀(n:Nat) (d:Int),P d→(d-B).toNat≤n→∃d,P d∧∀e,P e→d≤e:=by
  intro n
  induction n with
  |zero=>intro d hd hn; exact⟨d,hd,fun e he=>by have:=hB e he; have:=hB d hd; omega⟩
  |succ n ih =>
   intro d hd hn
   by_cases hx:∃e,P e∧e<d
   ·obtain⟨e,he,hl⟩:=hx;exact ih e he (by have:=hB e he; omega)
   ·exact⟨d,hd,fun e he=>by
     rcases gX e d with q|q
     ·exact absurd ⟨e,he,q⟩ hx
     ·exact q⟩
 exact this _ d0 h0 (cG _)
def Wl.cutK {S:Int→Prop} {vs:List Int} {u d:Int} (h:Wl L S vs u d):∀x∈u::vs,∃vs1 d1 k d2,Wl L S vs1 x d1∧(x::vs1) <:+ (u::vs)∧Wk L u k x d2∧d=d1+d2∧k≤vs.length:=by
 induction h with
 | @nil v hv =>
  intro x hx;simp at hx;subst hx;exact⟨[],0,0,0,.nil hv,List.suffix_refl _,.nil,by omega,by simp⟩
 | @step vs u v m d hw hl ih =>
  intro x hx;rcases cN.1 hx with rfl|hx
  ·exact⟨u::vs,d+m,0,0,.step hw hl,List.suffix_refl _,.nil,by omega,by simp⟩
  ·obtain⟨vs1,d1,k,d2,g1,g2,g3,g4,g5⟩:=ih x hx;exact⟨vs1,d1,k+1,d2+m,g1,g2.trans (List.suffix_cons _ _),g3.snoc hl,by omega,by simp; omega⟩
def ab3 (hS:jA L N) (hno:kZ L N=false):∃(k:Nat) (v d:Int),1≤k∧k≤N∧(0≤v∧v<N)∧Wk L v k v d∧d<0:=by
 have hn:=hS.n60;apply Classical.byContradiction;intro hc
 have hcl:∀{k:Nat} {v d:Int},1≤k→k≤N→(0≤v∧v<N)→Wk L v k v d→0≤d:=fun {k v d} h1 h2 h3 h4=>by
  rcases gX d 0 with q|q
  ·exact absurd ⟨k,v,d,h1,h2,h3,h4,q⟩ hc
  ·exact q
 have hinr:∀l∈L,-4503599627370496≤l.2.2:=fun l hl=>(hS.most l hl).1
 let P:Int→Int→Prop:=fun v d=>∃vs,Wl L (fun u=>0≤u∧u<N) vs v d∧(v::vs).Nodup
 have hP:∀v:Int,0≤v∧v<N→∃d,P v d∧∀e,P v e→d≤e:=fun v hv=>ahc (B:=-(60*4503599627370496)) ⟨0,[],.nil hv,by simp⟩ (by
  rintro d ⟨vs,h1,h2⟩;have q1:=h1.lowM hinr;have q2:=h1.short hS.inr (fun w hw=>hw) h2
  have:((vs.length:Nat):Int)*4503599627370496≤60*4503599627370496:=by omega
  omega)
 have ho:kZ L N=true:=by
  refine(jX hS.links (by omega)).2 ⟨fun v=>if hv:0≤v∧v<(N:Int) then Classical.choose (hP v hv) else 0,fun u v m hl=>?_⟩;have hr:=hS.inr _ hl;dsimp only at hr;obtain⟨⟨vs,hw,hnd⟩,hu2⟩:=Classical.choose_spec (hP u hr.1);obtain⟨_,hv2⟩:=Classical.choose_spec (hP v hr.2);have e1:(if hv:0≤u∧u<(N:Int) then Classical.choose (hP u hv) else 0)=Classical.choose (hP u hr.1):=dif_pos hr.1;have e2:(if hv:0≤v∧v<(N:Int) then Classical.choose (hP v hv) else 0)=Classical.choose (hP v hr.2):=dif_pos hr.2;dsimp only;rw[e1,e2];generalize Classical.choose (hP u hr.1)=a at *;generalize Classical.choose (hP v hr.2)=b at *
  by_cases hv:v∈u::vs
  ·obtain⟨vs1,d1,k,d2,g1,g2,g3,g4,g5⟩:=hw.cutK v hv;have hlen:=hw.short hS.inr (fun w hw=>hw) hnd;have:=hcl (by omega) (by omega) hr.2 (g3.snoc hl);have:=hv2 d1 ⟨vs1,g1,hnd.sublist g2.sublist⟩;omega
  ·have:=hv2 (a+m) ⟨u::vs,hw.step hl,eM.2 ⟨hv,hnd⟩⟩;omega
 rw[hno] at ho;cases ho
def lY (L:List Lk) (N:Nat) (k:Nat) (l:Lk):Bool:=decide (gv (exL L N l.1 k) l.2.1≠Ŝ)&&decide (l.2.2+gv (exL L N l.1 k) l.2.1<0)
def acR (hS:jA L N) (hno:kZ L N=false):∃k,k<N∧∃l∈L,lY L N k l=true:=by
 have hn:=hS.n60;obtain⟨k,v,d,h1,h2,h3,h4,h5⟩:=ab3 hS hno
 cases h4 with
 |nil=>omega
 | @step k v w m d hl hk =>
  have hr:=hS.inr _ hl;obtain⟨e1,e2⟩:=(TC hS h3 k (by omega) w hr.2.1 hr.2.2).2 d hk;refine⟨k,by omega,(v,w,m),hl,?_⟩;simp only[lY,cH,decide_eq_true_eq];exact⟨e2,by omega⟩
def Xb (hS:jA L N) {k:Nat} (hk:k<N) {l:Lk} (hl:l∈L) (hb:lY L N k l=true) :
 ∃q,oM L (exL L N l.1) (fun n=>ilt n 0) (k+1) l.1 0 []=q∧q.length=k+1∧(∀i∈q,BD L i=false)∧Ţ L q=0∧∃u s,BG L u 0 q=(u,s,true)∧s<0:=by
 have hn:=hS.n60;have hr:=hS.inr _ hl;simp only[lY,cH,decide_eq_true_eq] at hb;have hlim:=CF hS hr.1 k (by omega);obtain⟨_,i2,_⟩:=E7 hS (B:=k*4503599627370496) (by omega) (by omega) hlim hr.1.1 hr.1.2 L (fun _ h=>h) (List.replicate N Ŝ) (by simp) (MB (by omega));have h2:gv (exL L N l.1 (k+1)) l.1≤l.2.2+gv (exL L N l.1 k) l.2.1:=i2 l.2.1 l.2.2 hl hb.1
 have hne:gv (exL L N l.1 (k+1)) l.1≠Ŝ:=fun h=>by rw[h] at h2; unfold Ŝ at h2; omega
 obtain⟨q,q1,q2,q3,s,q4,q5⟩:=MV hS hr.1 (fun n=>ilt n 0) (k+1) (by omega) l.1 0 [] hr.1.1 hr.1.2 hne (by rw[Int.zero_add]; exact decide_eq_true (by omega));rw[dS] at q1;have hs:s<0:=of_decide_eq_true q5;refine⟨q,q1,q2,q3,?_,l.1,s,q4,hs⟩
 have hany:q.any (BD L)=false:=by
  rw[dM]
  exact fun i hi=>by rw[q3 i hi]; simp
 cases q with
 |nil=>simp at q2
 |cons i t =>
  have hi:=q3 i (by simp);simp only[BD,gB,decide_eq_false_iff_not] at hi;have hg:L[i.toNat]?=some L[i.toNat]:=cF (by omega)
  have hfst:(L[i.toNat]?.getD (0,0,0)).1=l.1:=by
   unfold BG at q4
   by_cases h:(L[i.toNat]?.getD (0,0,0)).1=l.1
   ·exact h
   ·rw[if_neg h] at q4; simp at q4
  have hix:lP L (i::t)=0:=by
   unfold lP;rw[if_neg (by omega),hany];rfl
  unfold Ţ;rw[hix,if_neg (by simp)];dsimp only;rw[hfst,q4];unfold aba;dsimp only;rw[if_pos ⟨rfl,rfl,hs⟩]
end
def ahl {x:List Int} {k:Int} (h1:1≤k):gv (0::x) k=gv x (k-1):=by
 rw[Tr _ _ (by omega),if_neg (by omega)]
def ajr {B:ë} (h:Room B) {x:List Int} (hx:Js B x=(true,0)) (n:Int×Int):(ivR B n).1≤gv (0::x) (Jm B n.1 n.2)∧gv (0::x) (Jm B n.1 n.2)≤(ivR B n).2:=by
 obtain⟨_,_,hf⟩:=XA.1 hx;have hp:Pot (Ζ B) (gv (0::x)):=MY.1 hf;have a1:=TD h.good.sys h.good.tied h.op (Zd B n) (ZU B) hp;have a2:=TD h.good.sys h.good.tied h.op (ZU B) (Zd B n) hp;have e:gv (0::x) 0=0:=rfl;rw[e] at a1 a2;unfold ivR dstR;dsimp only;omega
def ZZ {L:List Lk} {p:Int→Int} (hp:Pot L p):∀(l:List Int) (u s:Int),(∀i∈l,0≤i∧i.toNat<L.length)→(BG L u s l).2.2=true→p (BG L u s l).1-p u≤(BG L u s l).2.1-s
 |[],u,s,_,_=>by simp[BG]
 |i::t,u,s,hi,hw=>by
  have hx:=hi i (by simp);have hg:L[i.toNat]?=some L[i.toNat]:=List.getElem?_eq_getElem hx.2;have hm:=List.mem_of_getElem? hg;generalize L[i.toNat]=x at hg hm;unfold BG at hw ⊢;rw[hg] at hw ⊢;simp only[Option.getD_some] at hw ⊢
  split at hw
  ·rename_i hc;rw[if_pos hc];have h1:=hp x.1 x.2.1 x.2.2 hm;have h2:=ZZ hp t x.2.1 (s+x.2.2) (fun j hj=>hi j (by simp[hj])) hw;rw[hc] at h1;omega
  ·cases hw
section
variable {L:List Lk} {N:Nat}
def ahD {ρ:Type} (c0:List (List Int)) (c6:List Lk):@yF ρ c0 c6=folM (fun n=>ilt n 0) c0 c6:=rfl
def xx (L:List Lk) (N:Nat):List (List (List Int)):=(List.range N).map fun(n:Nat)=>mo L N n N
def abL {L:List Lk} {N n:Nat} (h:n<N):(xx L N)[n]?=some (mo L N n N):=by
 unfold xx;rw[List.getElem?_map,List.getElem?_range h];rfl
def XQ {ρ:Type} (hS:jA L N) (K:List (List (List Int))→Option ρ) :
 Ë (fun(v56:Int×List (List (List Int))) kk59=>oc (Û (List.replicate N ([]:(Val (.slice (.slice tI)))))) (N:Int) L v56.1 v56.2 (fun u57 u58=>kk59 (u57,u58)) K) ((0:Int),(List.replicate N ([]:(Val (.slice (.slice tI))))))=K (xx L N):=by
 have hN:=hS.n60;refine ĩ (List.replicate N ()) (fun i=>((List.range i).map fun(n:Nat)=>mo L N n N)++List.replicate (N-i) ([]:List (List Int))) _ (by simp) (fun i a hi ha kn=>?_) (fun kn=>?_)
 ·try dsimp only
  unfold oc;rw[List.length_replicate] at hi;rw[Ò,List.length_replicate,Ø (decide_eq_true (by omega)),aht hS ⟨by omega,by omega⟩ (by omega),À]
  have hlen:(((List.range i).map fun(n:Nat)=>mo L N n N)++List.replicate (N-i) ([]:List (List Int))).length=N:=by simp; omega
  rw[show î (((List.range i).map fun(n:Nat)=>mo L N n N)++List.replicate (N-i) ([]:List (List Int)))=(N:Int) by unfold î; rw[hlen],ŭ (by omega) (by omega),Int.toNat_natCast]
  have hget:(((List.range i).map fun(n:Nat)=>mo L N n N)++List.replicate (N-i) ([]:List (List Int)))[i]?=some []:=by
   rw[fU (by simp),gQ,if_pos (by simp; omega)]
  rw[i9 hget,Ô (by omega) (by omega)];congr 2;rw[gw _ _ (by simp),fT,fj]
  have e:N-i=(N-(i+1))+1:=by omega
  rw[e,f9];simp
 ·try dsimp only
  unfold oc;rw[Ò,List.length_replicate,List.length_replicate,Í (decide_eq_false (by omega))];unfold xx;simp
def Uw {ρ:Type} (hS:jA L N) {k:Nat} (hk:k<N) (k0:Unit→Option ρ) (k1:Int×List Int→Option ρ) (k2:Unit→Option ρ) :
 Ë (fun(v48:Int) kk50=>ob ((k:Int)+1) L (Û L) (N:Int) L (xx L N) v48 (fun u49=>kk50 u49) k0 k1 k2) (0:Int) =
  match L.find? (lY L N k) with|some l=>k1 (0,oM L (exL L N l.1) (fun n=>ilt n 0) (k+1) l.1 0 [])|none=>k2 ():=by
 have hN:=hS.n60;have hl3:=hS.len;rw[Tx];refine(jr L (lY L N k) (fun j=>match L[j.toNat]? with|some l=>k1 (0,oM L (exL L N l.1) (fun n=>ilt n 0) (k+1) l.1 0 [])|none=>k2 ()) (k2 ()) (fun i l hi hl kn=>?_) (fun kn=>?_)).trans ?_
 ·try dsimp only
  unfold ob;have hm:=List.mem_of_getElem? hl;have hr:=hS.inr l hm;have hmo:=hS.most l hm
  have hto:((l.1.toNat:Nat):Int)=l.1:=by omega
  have hg:(xx L N)[l.1.toNat]?=some (mo L N l.1 N):=by rw[abL (by omega),hto]
  have hol:î (xx L N)=(N:Int):=by simp[î,xx]
  have hlim:=CF hS hr.1 k (by omega) l.2.1;rw[Ð hi,È hl,hol,ŭ hr.1.1 hr.1.2,i9 hg,show((k:Int)+1-1)=(k:Int) by omega,Ô (by omega) (by omega),È (Hk (by omega)),oL hr.2.1 (by rw[Zm]; omega)];unfold lY
  by_cases h1:gv (exL L N l.1 k) l.2.1=Ŝ
  ·rw[Ø (beq_iff_eq.2 h1),Ì hi (by omega),if_neg (by simp[h1])]
  ·have hb:=hlim h1;rw[Í (beq_eq_false_iff_ne.2 h1),Ô (by omega) (by omega)]
   by_cases h2:l.2.2+gv (exL L N l.1 k) l.2.1<0
   ·rw[Í (decide_eq_false (by omega)),Í (decide_eq_false (by omega)),ŭ hr.1.1 hr.1.2,i9 hg,if_pos (by simp[h1,h2]),ahD,cT,hl];have hex:∀j,j<k+1→(mo L N l.1 N)[j]?=some (exL L N l.1 j):=fun j hj=>Hk (by omega)
    have hx:∀j,j<k+1→Lim 900000000000000000 (exL L N l.1 j)∧(exL L N l.1 j).length=N:=fun j hj=>⟨fun w hw=>by
     have:=CF hS hr.1 j (by omega) w hw; omega,Zm _ _⟩
    have:=ajp hS (fun n=>ilt n 0) (rest:=mo L N l.1 N) (R:=exL L N l.1) (k0:=k+1) (by omega) hex hx l.1 (fun z=>k1 (0,z));rw[show(((k+1:Nat):Int))=(k:Int)+1 by push_cast; rfl] at this;exact this
   ·rw[Ø (decide_eq_true (by omega)),Ì hi (by omega),if_neg (by simp[h1,h2])]
 ·try dsimp only
  unfold ob;rw[Þ]
 ·cases h:L.findIdx? (lY L N k) with
  |none=>rfl
  |some j=>dsimp only; rw[Int.toNat_natCast]
def ago (hS:jA L N) (hno:kZ L N=false):∃(K:Nat) (l:Lk),K<N∧(∀k,k<K→∀x∈L,lY L N k x=false)∧L.find? (lY L N K)=some l∧ov ((N:Int),L)=some (oM L (exL L N l.1) (fun n=>ilt n 0) (K+1) l.1 0 [],0):=by
 have hN:=hS.n60;obtain⟨K0,hK0,l0,hl0,hb0⟩:=acR hS hno
 -- the first number of links
 have hex:∃K,K≤K0∧(∃l∈L,lY L N K l=true)∧∀k,k<K→∀x∈L,lY L N k x=false:=by
  have:∀n:Nat,(∀k,k<n→∀x∈L,lY L N k x=false)∨∃K,K<n∧(∃l∈L,lY L N K l=true)∧∀k,k<K→∀x∈L,lY L N k x=false:=by
   intro n
   induction n with
   |zero=>exact .inl fun k hk=>by omega
   |succ n ih =>
    rcases ih with h|⟨K,h1,h2⟩
    ·by_cases hx:∃l∈L,lY L N n l=true
     ·exact .inr ⟨n,by omega,hx,h⟩
     ·refine .inl fun k hk x hxm=>?_;rcases gi (Nat.le_of_lt_succ hk) with h1|rfl
      ·exact h k h1 x hxm
      ·exact eh.2 fun e=>hx ⟨x,hxm,e⟩
    ·exact .inr ⟨K,by omega,h2⟩
  rcases this (K0+1) with h|⟨K,h1,h2,h3⟩
  ·have:=h K0 (by omega) l0 hl0;rw[hb0] at this; cases this
  ·exact⟨K,by omega,h2,h3⟩
 obtain⟨K,hK,⟨l1,hl1,hb1⟩,hfirst⟩:=hex
 obtain⟨l,hl⟩:∃l,L.find? (lY L N K)=some l:=by
  cases h:L.find? (lY L N K) with
  |none=>have:=ej.1 h l1 hl1; exact absurd hb1 this
  |some l=>exact⟨l,rfl⟩
 refine⟨K,l,by omega,hfirst,hl,?_⟩;unfold ov Ee;rw[jL hS,À,Í (by rfl),vk hS.links hS.n1 (by omega),À,if_neg (by simp[hno]),Í (by rfl),okN (by omega),Int.toNat_natCast];refine(XQ hS _).trans ?_;refine ĝ (fun v=>∃k:Nat,k≤K∧v=(k:Int)+1) (fun v=>(K+2)-v.toNat) ?_ ⟨0,by omega,rfl⟩;rintro v ⟨k,hk,rfl⟩;rcases Nat.lt_or_eq_of_le hk with h|rfl
 ·refine .inr ⟨((k+1:Nat):Int)+1,⟨k+1,h,rfl⟩,by omega,fun kn=>?_⟩;unfold rZ;refine(Uw hS (by omega) _ _ _).trans ?_
  have hnone:L.find? (lY L N k)=none:=ej.2 fun x hx=>by rw[hfirst k h x hx]; simp
  rw[hnone];dsimp only;rw[Ô (by omega) (by omega)];congr 1
 ·refine .inl fun kn=>?_;unfold rZ;refine(Uw hS (by omega) _ _ _).trans ?_;rw[hl]
end
def adA (L:List Lk) (N:Nat):List (Int×Int):=(List.range N).map fun(n:Nat)=>(-(dst L N n 0),dst L N 0 n)
section
variable {L:List Lk} {N:Nat}
def abO {n:Nat} (h:n<N):(adA L N)[n]?=some (-(dst L N n 0),dst L N 0 n):=by
 unfold adA;rw[List.getElem?_map,List.getElem?_range h];rfl
def ah0 (hS:jA L N) (ht:ZK L N) (ho:kZ L N=true):uQ ((N:Int),L)=some (adA L N,0):=by
 have hN:=hS.n60;have hN1:=hS.n1;unfold uQ LF;rw[ahW hS (fun n hn=>by simp at hn) (by simp),À,if_pos ho,Í (by rfl),Xo hS.links hS.n1 (by omega) ho ⟨by omega,by omega⟩,À,okN (by omega),Int.toNat_natCast];have hlen0:(zk L N 0).length=N:=Nw 0;refine ĩ (List.replicate N ()) (fun i=>((List.range i).map fun(n:Nat)=>dst L N n 0)++List.replicate (N-i) (0:Int)) _ (by simp) (fun i a hi ha kn=>?_) (fun kn=>?_)
 ·try dsimp only
  unfold rY;rw[List.length_replicate] at hi;rw[Ò,List.length_replicate,Ø (decide_eq_true (by omega)),Xo hS.links hS.n1 (by omega) ho ⟨by omega,by omega⟩,À,oL (by omega) (by rw[Nw]; simp; omega)]
  have hlen:(((List.range i).map fun(n:Nat)=>dst L N n 0)++List.replicate (N-i) (0:Int)).length=N:=by simp; omega
  rw[show î (((List.range i).map fun(n:Nat)=>dst L N n 0)++List.replicate (N-i) (0:Int))=(N:Int) by unfold î; rw[hlen],ŭ (by omega) (by omega),Int.toNat_natCast]
  have hget:(((List.range i).map fun(n:Nat)=>dst L N n 0)++List.replicate (N-i) (0:Int))[i]?=some 0:=by
   rw[fU (by simp),gQ,if_pos (by simp; omega)]
  rw[i9 hget,Ô (by omega) (by omega)];congr 2;rw[gw _ _ (by simp),fT,fj]
  have e:N-i=(N-(i+1))+1:=by omega
  rw[e,f9];simp[dst]
 ·try dsimp only
  unfold rY;rw[Ò,List.length_replicate,List.length_replicate,Í (decide_eq_false (by omega))]
  have e0:((List.range N).map fun(n:Nat)=>dst L N n 0)++List.replicate (N-N) (0:Int)=(List.range N).map fun(n:Nat)=>dst L N n 0:=by simp
  rw[e0];refine ĩ (List.replicate N ()) (fun i=>(List.range i).map fun(n:Nat)=>(-(dst L N n 0),dst L N 0 n)) _ (by simp) (fun i a hi ha kn=>?_) (fun kn=>?_)
  ·try dsimp only
   unfold rX;rw[List.length_replicate] at hi
   have hget:((List.range N).map fun(n:Nat)=>dst L N n 0)[i]?=some (dst L N i 0):=by
    rw[eQ,f8 hi]; rfl
   have hb:=dst_bd hS ht ho (s:=(i:Int)) (t:=0) ⟨by omega,by omega⟩ ⟨by omega,by omega⟩;rw[Ò,hlen0,Ø (decide_eq_true (by omega)),show î ((List.range N).map fun(n:Nat)=>dst L N n 0)=(N:Int) by simp[î],ŭ (by omega) (by omega),cT,i9 hget,Ô (by omega) (by omega),oL (by omega) (by rw[hlen0]; simp; omega),ċ (Õ (by simp only[dA,fV,dG]; omega)),Ô (by omega) (by omega),Int.zero_sub];congr 2;rw[fT,fj];rfl
  ·try dsimp only
   unfold rX;rw[Ò,hlen0,List.length_replicate,Í (decide_eq_false (by omega))];rfl
end
abbrev nT (m:ŕ) (w:Way):Nat:=(Ê (trP m w)).length+1
abbrev sT (m:ŕ) (w:Way):List Lk:=Ζ (trP m w)
def BA (L:List Lk) (N:Nat):List Int:=((ov ((N:Int),L)).getD ([],0)).1
def Xc {L:List Lk} {N:Nat} (hS:jA L N) (hno:kZ L N=false):ov ((N:Int),L)=some (BA L N,0)∧Ţ L (BA L N)=0∧(BA L N).length≤N:=by
 obtain⟨K,l,h1,_,h3,h4⟩:=ago hS hno;obtain⟨q,q1,q2,_,q4,_⟩:=Xb hS h1 (fC h3) (gj h3)
 have e:BA L N=q:=by unfold BA; rw[h4,q1]; rfl
 rw[e];exact⟨by rw[h4,q1],q4,by omega⟩
section
variable {m:ŕ} {w:Way} {ρ:Type}
def Z6 (n:Nat):(((n:Int)+1,Ζ (trP m w)):Sys)=(((n+1:Nat):Int),Ζ (trP m w)):=by simp
def abx (m:ŕ):List (List Int)×Int:=if ļ m≠0 then([],ļ m) else if oT m then([],5) else((ĥ m.2).map fun w=>BA (sT m w) (nT m w),0)
def ah4 (hs:In m.1) (hn:m.2.length≤1000):Fg m=some (abx m):=by
 unfold Fg Lj abx;rw[nw hs hn,À]
 by_cases hc:ļ m=0
 ·have h:=(Ŋ m).1 hc;have hl2:=qS h;have hm:((((m.1.1.1,m.1.1.2),m.1.2.1,m.1.2.2.1,m.1.2.2.2.1,m.1.2.2.2.2.1,m.1.2.2.2.2.2),m.2):ŕ)=m:=rfl;rw[Í (by simp[ine,hc]),if_neg (by simp[hc]),JX h,À];refine MA (ĥ m.2) (fun i=>((ĥ m.2).take i).map fun w=>BA (sT m w) (nT m w)) _ (fun i=>∀w∈(ĥ m.2).take i,mZ m w=false) rfl (fun w hw=>by simp at hw) (fun i x hi hx hp kn=>?_) (fun hp kn=>?_)
  ·try dsimp only
   unfold rR;have hg:=oA h (pP hx);rw[Ð hi,È hx,hm,nz h (pP hx),À,NF h (pP hx),À];dsimp only;rw[Z6]
   cases he:mZ m x with
   |true =>
    refine .inl ?_;rw[acG hg.sys he,À];have:oT m=true:=dj.2 ⟨x,cO hx,he⟩;rw[this]; rfl
   |false =>
    refine .inr ⟨fun w hw=>?_,?_⟩
    ·rw[take_succ hx] at hw;rcases cM.1 hw with hw|hw
     ·exact hp w hw
     ·rw[cP.1 hw]; exact he
    ·rw[(Xc hg.sys he).1,À,Í (by rfl),ċ (Õ (by simp; omega)),Ì hi (by omega),take_succ hx,fj]; rfl
  ·rw[fP] at hp
   try dsimp only
   unfold rR
   have:oT m=false:=dM.2 fun w hw=>by rw[show mZ m w=false from hp w hw]; simp
   rw[Þ,fP,this]; rfl
 ·rw[Ø (by simp[ine,hc]),if_pos hc]
def wD (m:ŕ) (chains:List (List Int)):Bool:=(List.range (ĥ m.2).length).all fun i=>match (ĥ m.2)[i]?,chains[i]? with|some w,some c=>decide (Ţ (sT m w) c=0)|_,_=>false
def nc (m:ŕ) (chains:List (List Int)):Int:=if ļ m≠0 then ļ m else if chains.length≠(ĥ m.2).length then 8 else if wD m chains then 0 else 8
def FL (hs:In m.1) (hn:m.2.length≤1000) (chains:List (List Int)):j8 m chains=some (nc m chains):=by
 unfold j8 sP nc;rw[nw hs hn,À]
 by_cases hc:ļ m=0
 ·have h:=(Ŋ m).1 hc;have hl2:=qS h;have hm:((((m.1.1.1,m.1.1.2),m.1.2.1,m.1.2.2.1,m.1.2.2.2.1,m.1.2.2.2.2.1,m.1.2.2.2.2.2),m.2):ŕ)=m:=rfl;rw[Í (by simp[ine,hc]),if_neg (by simp[hc]),JX h,À]
  by_cases hl:chains.length=(ĥ m.2).length
  ·rw[Í (by simp[ine,Ò]; omega),if_neg (by simp[hl])];refine eA (aaH (ĥ m.2).length (fun i=>match (ĥ m.2)[i]?,chains[i]? with|some w,some c=>decide (Ţ (sT m w) c=0)|_,_=>false) (some 8) (some 0) (fun i hi kn=>?_) (fun kn=>?_)) ?_
   ·have hx:(ĥ m.2)[i]?=some (ĥ m.2)[i]:=cF hi;have hx2:chains[i]?=some chains[i]:=cF (by omega)
    try dsimp only
    unfold jG;rw[Ð hi,È hx,hm,nz h (pP hx),À,NF h (pP hx),À,È hx2];dsimp only;rw[Z6,Ps (oA h (pP hx)).sys,À,hx,hx2,Ď,Ì hi (by omega)];dsimp only
    by_cases he:Ţ (sT m (ĥ m.2)[i]) chains[i]=0
    ·rw[if_neg (by simp[ine,he]),if_pos (by simpa using he)]
    ·rw[if_pos (by simp[ine,he]),if_neg (by simpa using he)]
   ·try dsimp only
    unfold jG;rw[Þ]
   ·unfold wD
    cases(List.range (ĥ m.2).length).all fun i=>match (ĥ m.2)[i]?,chains[i]? with|some w,some c=>decide (Ţ (sT m w) c=0)|_,_=>false<;>rfl
  ·rw[Ø (by simp[ine,Ò]; omega),if_pos hl]
 ·rw[Ø (by simp[ine,hc]),if_pos hc]
def NI (m:ŕ) (w:Way):Bool×Int:=if sK m w≠0 then(false,sK m w) else(mZ m w,0)
def ZQ (hs:In m.1) (hn:m.2.length≤1000) (hw:∀l∈w,l.length≤100000):sE m w=some (NI m w):=by
 unfold sE yk NI;rw[NA hs hn hw,À]
 by_cases hc:sK m w=0
 ·obtain⟨h,ho⟩:=wI.1 hc;rw[Í (by simp[ine,hc]),if_neg (by simp[hc]),qC h ho]; rfl
 ·rw[Ø (by simp[ine,hc]),if_pos hc]
def HB (m:ŕ) (w:Way):ë×Int:=if sK m w≠0 then(Jr,sK m w) else(trP m w,0)
def Xw (hs:In m.1) (hn:m.2.length≤1000) (hw:∀l∈w,l.length≤100000):pp m w=some (HB m w):=by
 unfold pp vz HB;rw[NA hs hn hw,À]
 by_cases hc:sK m w=0
 ·obtain⟨h,ho⟩:=wI.1 hc;rw[Í (by simp[ine,hc]),if_neg (by simp[hc]),nz h ho]; rfl
 ·rw[Ø (by simp[ine,hc]),if_pos hc]; rfl
def WhoP (m:ŕ) (w:Way) (x d:Int):Int×Int:=if sK m w≠0 then(0,sK m w) else if lN m.1 x d≠0 then(0,lN m.1 x d) else(η m.2 w x d,0)
def aga (hs:In m.1) (hn:m.2.length≤1000) (hw:∀l∈w,l.length≤100000) (x d:Int):M6 m w x d=some (WhoP m w x d):=by
 unfold M6 Yt WhoP;rw[NA hs hn hw,À]
 by_cases hc:sK m w=0
 ·obtain⟨h,ho⟩:=wI.1 hc;rw[Í (by simp[ine,hc]),if_neg (by simp[hc]),Tj hs.size.gauges,À]
  by_cases hk:lN m.1 x d=0
  ·rw[Í (by simp[ine,hk]),if_neg (by simp[hk]),h.who ho]; rfl
  ·rw[Ø (by simp[ine,hk]),if_pos hk]
 ·rw[Ø (by simp[ine,hc]),if_pos hc]
def xb (b:ë) (x:Int):Prop:=∃g,ø b x=some g
def MD {b:ë} {x d:Int}:lN b x d=0↔(0≤d∧d≤20000)∧xb b x:=by
 unfold lN xb;rw[←Option.isSome_iff_exists]
 cases hd:JT d with
 |false =>
  simp only[fg,if_true];simp only[JT,inP,gW,decide_eq_false_iff_not] at hd;constructor
  ·intro e; cases e
  ·rintro⟨e,_⟩; omega
 |true =>
  simp only[JT,inP,cH,decide_eq_true_eq] at hd
  cases ø b x<;>simp[hd]
def MOk.whoK (h:MOk m) (hw:Ħ m.2 w) {d x:Int} (hx:xb m.1 x):xb m.1 (η m.2 w x d) :=
 XK (xb m.1) hw (fun y hy _ z hz=>let ⟨g,e,_⟩:=(h.mix hy).known z hz; ⟨g,e⟩) hx
def wp (b:ë) (n:Int×Int):(Int×Int)×Int:=if (iB b n).2≠0 then((0,0),(iB b n).2) else(ivR (iB b n).1 n,0)
def adu {b:ë} (h:Room b) {n:Int×Int} (e:(iB b n).2=0):Room (iB b n).1∧FI (iB b n).1 n:=by
 rcases C4 e with⟨h1,h2⟩|⟨h1,h2,_⟩
 ·rw[h1];exact⟨h,(EW h.good).1 h2⟩
 ·rw[h1];refine⟨⟨h2,?_,h.num⟩,WH n h2⟩;obtain⟨f,z,hh⟩:=(U8 h.good).1 h.op;exact(U8 h2).2 ⟨f,z,aev.2 hh⟩
def MC {B:ë} (h:Room B) {n:Int×Int} (hn:FI B n) (K:(Int×Int)×Int→Option ρ) :
 (Ä (ka B n) fun r3=>Ä (iW B) fun r4=>Ä (uQ r4.1) fun r5=>ifb (ine r5.2 (0:Int)) (K (((0:Int),(0:Int)),r5.2)) (ě r5.1 r3.1 fun e6=>K (e6,(0:Int))))=K (ivR B n,0):=by
 have hI:In B:=⟨h.good.size,h.num⟩;have hi:=(EW h.good).2 hn;have hr:=Zd B n;have hsp:=ah0 h.good.sys h.good.tied h.op;rw[FK hI,À,FJ,if_neg (by simp[(ö _).2 h.good]),if_neg hi,Xx hI,À,T4,if_neg (by simp[(ö _).2 h.good])];dsimp only;rw[show((((Ê B).length:Int)+1,Ζ B):Sys)=((((Ê B).length+1:Nat):Int),Ζ B) by simp,hsp,À,Í (by rfl)];obtain⟨k,hk⟩:∃k:Nat,Jm B n.1 n.2=k:=⟨(Jm B n.1 n.2).toNat,by omega⟩;rw[hk,È (abO (by omega))];unfold ivR dstR;rw[hk]
def aeG {b:ë} (h:Room b) (n:Int×Int):zP b n=some (wp b n):=by
 have hI:In b:=⟨h.good.size,h.num⟩;have hc:=(ö _).2 h.good;unfold zP Gj wp;rw[FK hI,À]
 by_cases hi:Jm b n.1 n.2=0
 ·have e1:(FJ b n).2=5:=by unfold FJ; rw[if_neg (by simp[hc]),if_pos hi]
  rw[Ø (by simp[ine,e1]),agi hI,À,ZN,if_neg (by simp[hc])]
  by_cases h2:ñ (Ő b n)=0
  ·have e:iB b n=(Ő b n,0):=by unfold iB; rw[if_neg (by simp[hi]),if_neg (by simp[h2])]
   obtain⟨r1,r2⟩:=adu h (n:=n) (by rw[e]);rw[e] at r1 r2;rw[if_neg (by simp[h2]),Í (by rfl),MC r1 r2,e,if_neg (by simp)]
  ·have e:iB b n=(Jr,ñ (Ő b n)):=by unfold iB; rw[if_neg (by simp[hi]),if_pos h2]
   rw[if_pos h2,Ø (by simp[ine,h2]),e,if_pos h2]
 ·have e1:(FJ b n).2=0:=by unfold FJ; rw[if_neg (by simp[hc]),if_neg hi]
  have e:iB b n=(b,0):=by unfold iB; rw[if_pos hi]
  rw[Í (by simp[ine,e1]),←FK hI,MC h ((EW h.good).1 hi),e,if_neg (by simp)]
def aeZ {α β:Type} {f:α→Option β}:∀{l:List α} {i:Nat} {x:α} {e:β},l[i]?=some x→(∀w∈l.take i,f w=none)→f x=some e→l.findSome? f=some e
 |[],_,_,_,h,_,_=>by simp at h
 |y::l,0,x,e,h,_,he=>by simp at h; subst h; rw[gb,he]
 |y::l,i+1,x,e,h,hp,he=>by
  rw[gb,hp y (by simp)];exact aeZ (by simpa using h) (fun w hw=>hp w (by simp[hw])) he
abbrev Fnd:=List (Int×(Int×Int))
def acr (s t:Int×Int):Int×Int:=(min s.1 t.1,max s.2 t.2)
def ae0 (m:ŕ) (label d:Int) (M:Fnd) (w:Way):Fnd :=
 Kx (k:=tI) (v:=Ã) (η m.2 w label d) (match l5 (k:=tI) (v:=Ã) (η m.2 w label d) M with|some s=>acr (wp (trP m w) (η m.2 w label d,d)).1 s|none=>(wp (trP m w) (η m.2 w label d,d)).1) M
def kS (m:ŕ) (label d:Int) (l:List Way):Fnd:=l.foldl (ae0 m label d) []
def ZY (m:ŕ) (label d:Int) (w:Way):Int:=(wp (trP m w) (η m.2 w label d,d)).2
def oN (m:ŕ) (label d:Int):List (Int×Int×Int)×Int :=
 if ļ m≠0 then([],ļ m) else if lN m.1 label d≠0 then([],lN m.1 label d) else if iZ m=[] then([],5) else
 match (iZ m).findSome? fun w=>XH (ZY m label d w) with
 |some e=>([],e)
 |none=>(m.1.2.1.filterMap fun g=>(l5 (k:=tI) (v:=Ã) g.1 (kS m label d (iZ m))).map fun s=>(g.1,s),0)
def JM (hw:w∈iZ m):Ħ m.2 w∧mZ m w=true:=by
 obtain⟨h1,h2⟩:=dH.1 hw;exact⟨ny.1 h1,h2⟩
def ahn (h:MOk m):(iZ m).length≤150:=cY (dX _ _) (qS h)
def adJ (h:MOk m) (hw:Ħ m.2 w) (he:mZ m w=true):Room (trP m w):=⟨oA h hw,he,h.in_.num⟩
def XB (hs:In m.1) (hn:m.2.length≤1000) (label d:Int):uO m label d=some (oN m label d):=by
 unfold uO Gu oN;rw[nw hs hn,À]
 by_cases hc:ļ m=0
 ·have h:=(Ŋ m).1 hc;have hG:=hs.size.gauges;have hgl:=ahn h;rw[Í (by simp[ine,hc]),if_neg (by simp[hc]),Tj hG,À]
  by_cases hk:lN m.1 label d=0
  ·rw[Í (by simp[ine,hk]),if_neg (by simp[hk]),aeR h,À]
   by_cases hnil:iZ m=[]
   ·rw[Ø (by simp[ieq,Ò,hnil]),if_pos hnil]
   ·have:(iZ m).length≠0:=fun e=>hnil (cX.1 e);rw[Í (by simp[ieq,Ò,hnil]),if_neg hnil];have key:∀(l:List Way),(∀w∈l,XH (ZY m label d w)=none)→l.findSome? (fun w=>XH (ZY m label d w))=none:=fun l hl=>List.findSome?_eq_none_iff.2 hl;refine MA (iZ m) (fun i=>kS m label d ((iZ m).take i)) _ (fun i=>∀w∈(iZ m).take i,XH (ZY m label d w)=none) rfl (fun w hw=>by simp at hw) (fun i x hi hx hp kn=>?_) (fun hp kn=>?_)
    ·obtain⟨x1,x2⟩:=JM (cO hx);have hroom:=adJ h x1 x2
     try dsimp only
     unfold pj;rw[Ð hi,È hx,show((((m.1.1.1,m.1.1.2),m.1.2.1,m.1.2.2.1,m.1.2.2.2.1,m.1.2.2.2.2.1,m.1.2.2.2.2.2),m.2):ŕ)=m from rfl,h.who x1,À,nz h x1,À,aeG hroom,À]
     by_cases he:ZY m label d x=0
     ·refine .inr ⟨fun w hw=>?_,?_⟩
      ·rw[take_succ hx] at hw;rcases cM.1 hw with hw|hw
       ·exact hp w hw
       ·rw[cP.1 hw,he]; rfl
      ·unfold ZY at he
       have hst:kS m label d ((iZ m).take (i+1))=ae0 m label d (kS m label d ((iZ m).take i)) x:=by rw[take_succ hx,kS,List.foldl_append]; rfl
       rw[Í (by simp[ine,he]),hst];unfold ae0 NK
       cases l5 (k:=tI) (v:=Ã) (η m.2 x label d) (kS m label d ((iZ m).take i)) with
       |none=>dsimp only; rw[Ì hi (by omega)]
       |some s =>
        dsimp only;rw[Ì hi (by omega),Zb,aeN]; rfl
     ·refine .inl ?_
      have hfs:(iZ m).findSome? (fun w=>XH (ZY m label d w))=some (ZY m label d x):=by
       exact aeZ hx hp (by simp[XH,he])
      rw[hfs];unfold ZY at he ⊢;rw[Ø (by simp[ine,he])]
    ·rw[fP] at hp
     try dsimp only
     unfold pj;rw[Þ,key _ hp,List.take_length];dsimp only;refine ĩ m.1.2.1 (fun i=>(m.1.2.1.take i).filterMap fun g=>(l5 (k:=tI) (v:=Ã) g.1 (kS m label d (iZ m))).map fun s=>(g.1,s)) _ rfl (fun i g hi hg kn'=>?_) (fun kn'=>?_)
     ·try dsimp only
      unfold ph;have hle:((m.1.2.1.take i).filterMap fun g=>(l5 (k:=tI) (v:=Ã) g.1 (kS m label d (iZ m))).map fun s=>(g.1,s)).length≤1000:=Nat.le_trans (List.length_filterMap_le _ _) (by rw[List.length_take]; omega);rw[Ð hi,È hg,take_succ hg,List.filterMap_append];unfold NK
      cases hmg:l5 (k:=tI) (v:=Ã) g.1 (kS m label d (iZ m)) with
      |none=>simp only[List.filterMap_cons,hmg,Option.map_none,List.filterMap_nil,dh]; rw[Ì hi (by omega)]
      |some s =>
       simp only[List.filterMap_cons,hmg,dL,List.filterMap_nil];rw[ċ (Õ (by rw[dG]; omega)),Ì hi (by omega)]
     ·try dsimp only
      unfold ph;rw[Þ,List.take_length]
  ·rw[Ø (by simp[ine,hk]),if_pos hk]
 ·rw[Ø (by simp[ine,hc]),if_pos hc]
end
def aep {ρ α:Type} [DecidableEq α] {l m:List α} (hl:l.length=m.length) (K:Bool→Option ρ) {f:Int→(Int→Option ρ)→Option ρ}
 (h:∀(i:Nat) (a b:α),i<l.length→l[i]?=some a→m[i]?=some b→∀kn,f i kn=if a=b then kn ((i:Int)+1) else K false) (hn:∀kn,f l.length kn=K true):Ë f 0=K (decide (l=m)):=by
 refine eA (mS l (fun i a=>if m[i]?=some a then none else some false) K (K true) (fun i a hi ha kn=>?_) hn) ?_
 ·have hm:m[i]?=some m[i]:=cF (by omega);rw[h i a _ hi ha hm,hm]
  by_cases he:a=m[i]
  ·simp[he]
  ·have:¬m[i]=a:=fun e=>he e.symm;simp[he,this]
 ·cases h:Ŏ (fun i a=>if m[i]?=some a then none else some false) 0 l with
  |none=>simp[Uy hl h]
  |some b =>
   obtain⟨h1,h2⟩:=Ux h;simp[h1,h2]
def acV {a b:Way} (hn:a.length≤1000000) (hl:∀l∈a,l.length≤1000000):sF a b=some (decide (a=b)):=by
 unfold sF yu;rw[Ò,Ò]
 by_cases he:a.length=b.length
 ·rw[Í (by simp[ine,he])];refine aep he some (fun i x y hi hx hy kn=>?_) (fun kn=>?_)
  ·try dsimp only
   unfold lK;rw[Ð hi,È hx,È hy,NG (hl x (List.mem_of_getElem? hx)),À,Ì hi (by omega),Ď]
   by_cases h:x=y<;>simp[h]
  ·try dsimp only
   unfold lK;rw[Þ]
 ·rw[Ø (by simp[ine]; omega)];have:a≠b:=fun e=>he (by rw[e]);simp[this]
def afv {L:List Lk} {p:Int→Int} (hp:Pot L p) (c:List Int):Ţ L c≠0:=by
 unfold Ţ
 by_cases h2:lP L c=0
 case neg=>rw[if_pos h2]; exact h2
 rw[if_neg (by simp[h2])];have hi:=(Zf h2).2
 cases c with
 |nil=>exact(by decide:(8:Int)≠0)
 |cons i t =>
  dsimp only;unfold aba
  split
  ·rename_i h3;have:=ZZ hp (i::t) (L[i.toNat]?.getD (0,0,0)).1 0 hi h3.1;rw[h3.2.1] at this;have:=h3.2.2;omega
  ·decide
def afu {m:ŕ} {w:Way} (h:MOk m) (hw:Ħ m.2 w) {c:List Int} (hc:Ţ (sT m w) c=0):mZ m w=false:=by
 rw[eh];intro he;have hg:=oA h hw;have hn:=hg.sys.n60;obtain⟨p,hp⟩:=(jX hg.sys.links (by omega)).1 he;exact afv hp c hc
def adT {m:ŕ} (h:MOk m) {chains:List (List Int)} (hc:wD m chains=true):∀w∈ĥ m.2,mZ m w=false:=by
 intro w hw;obtain⟨i,hi,rfl⟩:=cS.1 hw;have:=di.1 hc i (fO.2 hi);rw[cF hi] at this
 cases hx:chains[i]? with
 |none=>rw[hx] at this; cases this
 |some c =>
  rw[hx] at this;exact afu h (ny.1 hw) (of_decide_eq_true this)
def UI {m:ŕ} (h:MOk m) (hs:oT m=false):wD m ((ĥ m.2).map fun w=>BA (sT m w) (nT m w))=true:=by
 refine di.2 fun i hi=>?_;rw[fO] at hi;have hx:(ĥ m.2)[i]?=some (ĥ m.2)[i]:=cF hi;have hw:(ĥ m.2)[i]∈ĥ m.2:=fe hi;rw[eQ,hx];have he:=dM.1 hs _ hw;exact decide_eq_true (Xc (oA h (ny.1 hw)).sys (eh.2 he)).2.1
def exM (l:List Cmp):ŕ:=(((0,2),[(1,0,1000,(-5,5),(1,10),1),(2,0,1000,(-50,50),(1,4),0),(3,0,1100,(-1,1),(0,1),0)],[(1,10)],[(1,(20,29),3)],(7,10,[1],[2],-20,1,100,200)::l,[]),[(12,[2,3])])
def ex8:Cmp:=(8,15,[2],[1],100,1,0,0)
def ex9:Cmp:=(9,15,[3],[],1100,0,0,0)
def ae6 {l:List Cmp} (hl:l.length≤10) (hp:∀c∈l,c.2.2.1.length≤10∧c.2.2.2.1.length≤10):In (exM l).1:=by
 refine⟨⟨by simp[exM],by simp[exM],by simp[exM],by simp[exM]; omega,by simp[exM],fun c hc=>?_⟩,fun g hg=>?_⟩
 ·rcases cN.1 (show c∈(7,10,[1],[2],-20,1,100,200)::l from hc) with rfl|hc
  ·exact⟨by decide,by decide⟩
  ·have:=hp c hc; omega
 ·simp only[exM,cN,f7,or_false] at hg
  rcases hg with rfl|rfl|rfl<;>exact⟨by decide,by decide⟩
def w0:ļ (exM [])=0∧ļ (exM [ex8])=0∧ļ (exM [ex8,ex9])=0:=by decide +kernel
def w1:ĥ (exM []).2=[[[2,3]],[[3,2]]]:=by decide +kernel
def w2:iZ (exM [])=[[[2,3]],[[3,2]]]:=by decide +kernel
def w3:Y5 (exM [ex8])=([[3,2]],0):=by decide +kernel
def w4:oN (exM [ex8]) 2 15=([(3,1099,1101)],0):=by decide +kernel
def w5:ajT (exM [ex8,ex9])=([8,9],0):=by decide +kernel
def w6:agd (exM [ex8,ex9]) [7,8,9]=([8,9],0):=by decide +kernel
def w7:HA (exM [ex8,ex9]) 2=(false,0):=by decide +kernel
def w8:oT (exM [ex8,ex9])=false:=by decide +kernel
def w9:WhoP (exM [ex8,ex9]) [[3,2]] 2 13=(3,0):=by decide +kernel
def zr:Ĝ=some true:=by
 have i0:In (exM []).1:=ae6 (by decide) (by simp);have i1:In (exM [ex8]).1:=ae6 (by decide) (by decide);have i2:In (exM [ex8,ex9]).1:=ae6 (by decide) (by decide)
 have n:∀l,(exM l).2.length≤1000:=fun l=>by simp[exM]
 have h0:=(Ŋ _).1 w0.1;have h2:=(Ŋ _).1 w0.2.2;have e0:ű []=some (exM []):=rfl;have e1:ű [((8:Int),(15:Int),[(2:Int)],[(1:Int)],(100:Int),(1:Int),(0:Int),(0:Int))]=some (exM [ex8]):=rfl;have e2:ű [((8:Int),(15:Int),[(2:Int)],[(1:Int)],(100:Int),(1:Int),(0:Int),(0:Int)),((9:Int),(15:Int),[(3:Int)],[],(1100:Int),(0:Int),(0:Int),(0:Int))]=some (exM [ex8,ex9]):=rfl
 have hp:abx (exM [ex8,ex9])=((ĥ (exM [ex8,ex9]).2).map (fun w=>BA (sT (exM [ex8,ex9]) w) (nT (exM [ex8,ex9]) w)),0):=by
  unfold abx; rw[if_neg (by simp[w0.2.2]),w8]; rfl
 have c1:nc (exM [ex8,ex9]) ((ĥ (exM [ex8,ex9]).2).map fun w=>BA (sT (exM [ex8,ex9]) w) (nT (exM [ex8,ex9]) w))=0:=by
  unfold nc;rw[if_neg (by simp[w0.2.2]),if_neg (by simp),UI h2 w8]; rfl
 have c2:∀c,nc (exM []) c=8:=fun c=>by
  unfold nc;rw[if_neg (by simp[w0.1])]
  split
  ·rfl
  ·rw[if_neg];intro hc;have:=adT h0 hc [[2,3]] (by rw[w1]; simp)
   have h3:[[2,3]]∈iZ (exM []):=by rw[w2]; simp
   rw[(JM h3).2] at this;cases this
 unfold Ĝ BT;rw[e0,À,agb i0 (n _),À,if_neg (by simp[w0.1]),À,All_ok i0 (n _),À,if_neg (by simp[w0.1]),e1,À,agk i1 (n _),À,À,XB i1 (n _),À,e2,À,ajS i2 (n _),À,ZL i2 (n _) (by simp),À,Xv i2 (n _),À,w1,w2,w3,w4,w5,w6,w7];rw[ah4 i2 (n _),À,hp,Í (by rfl),Í (by rfl),Í (by rfl),Í (by rfl),Í (by rfl),Í (by rfl),Í (by rfl),Í (by simp[ine,Ò]),Í (by simp[ine,Ò]),Í (by rfl)];rw[show ∀f:Way→Option Bool,ě [[[2,3]],[[3,2]]] (1:Int) f=f [[3,2]] from fun f=>rfl];dsimp only;rw[aga i2 (n _) (by decide),À,w9,Í (by rfl),Í (by rfl),Í (by rfl),FL i2 (n _),À,c1,Í (by rfl),À,FL i0 (n _),À,c2,Í (by rfl)];rw[acV (by decide) (by decide),À,Ø (by rfl),Ø (by simp[ieq,Ò])];rw[show ∀f:Int×Int×Int→Option Bool,ě [((3:Int),(1099:Int),(1101:Int))] (0:Int) f=f (3,1099,1101) from fun f=>rfl];dsimp only;rw[Ø (by rfl),NG (by decide),À,Ø (by rfl),À];rfl
section
variable {b:ë}
def ag1 {k:Nat} (hk:k<(Ê b).length):∃(i:Nat) (g:ò) (j:Nat) (d:Int),b.2.1[i]?=some g∧(ß b g)[j]?=some d∧k=off b i+j∧(Ê b)[k]?=some (g.1,d):=by
 obtain⟨i,g,j,h1,h2,h3⟩:=aaA (b:=b) b.2.1.length (cG _) k (by rw[ad7]; exact hk);have hd:(ß b g)[j]?=some (ß b g)[j]:=cF h2;exact⟨i,g,j,_,h1,hd,h3,by rw[h3]; exact JC h1 hd⟩
end
def aeq {ρ α:Type} (l:List α) (K:Option ρ) {f:Int→(Int→Option ρ)→Option ρ} (h:∀(i:Nat) (a:α),i<l.length→l[i]?=some a→∀kn,f i kn=kn ((i:Int)+1)) (hn:∀kn,f l.length kn=K):Ë f 0=K:=by
 refine eA (jr l (fun _=>false) (fun _=>K) K (fun i a hi ha kn=>by rw[h i a hi ha kn]; rfl) hn) ?_;rw[dF.2 (by simp)]
def bigP (c:Cmp):Bool:=decide (9<c.2.2.1.length)||decide (9<c.2.2.2.1.length)
def J4 (m:ŕ):Bool:=decide (m.1.2.1.length≤6)&&(decide (m.1.2.2.1.length≤20)&&(decide (m.1.2.2.2.1.length≤6)&&(decide (m.1.2.2.2.2.1.length≤8)&&(decide (m.1.2.2.2.2.2.length≤6)&&decide (m.2.length≤6)))))
def Us (m:ŕ):Bool:=!((m.1.2.2.2.2.1.take 60).any bigP)&&(!((m.2.take 8).any fun x=>decide (9<x.2.length))&&J4 m)
def adB (m:ŕ):zN m=some (Us m):=by
 unfold zN Gb
 have last:(ifb (ile (Û m.1.2.1) (6:Int)) (ifb (ile (Û m.1.2.2.1) (20:Int)) (ifb (ile (Û m.1.2.2.2.1) (6:Int)) (ifb (ile (Û m.1.2.2.2.2.1) (8:Int)) (ifb (ile (Û m.1.2.2.2.2.2) (6:Int)) (some (ile (Û m.2) (6:Int))) (some false)) (some false)) (some false)) (some false)) (some false))=some (J4 m):=by
  have e:∀(n m:Nat),ile (n:Int) (m:Int)=decide (n≤m):=fun n m=>by simp[ile]
  unfold J4;rw[Ò,Ò,Ò,Ò,Ò,Ò,show(6:Int)=((6:Nat):Int) from rfl,show(20:Int)=((20:Nat):Int) from rfl,show(8:Int)=((8:Nat):Int) from rfl,e,e,e,e,e,e];generalize decide (m.1.2.1.length≤6)=x1;generalize decide (m.1.2.2.1.length≤20)=x2;generalize decide (m.1.2.2.2.1.length≤6)=x3;generalize decide (m.1.2.2.2.2.1.length≤8)=x4;generalize decide (m.1.2.2.2.2.2.length≤6)=x5
  cases x1<;>cases x2<;>cases x3<;>cases x4<;>cases x5<;>rfl
 rw[last];refine eA (Ĺ (m.1.2.2.2.2.1.take 60) bigP (fun _=>some false) (some false) (some (!((m.2.take 8).any fun x=>decide (9<x.2.length))&&J4 m)) (fun _=>rfl) (fun i c hi hc kn=>?_) (fun kn=>?_)) ?_
 ·try dsimp only
  unfold o8;rw[List.length_take] at hi
  have hc':m.1.2.2.2.2.1[i]?=some c:=by rw[dO] at hc; split at hc<;>simp_all
  rw[Ð (show i<m.1.2.2.2.2.1.length by omega),Ø (by simp[ilt]; omega),È hc',È hc',Ô (by omega) (by omega),Ď,Ò,Ò];unfold bigP
  by_cases h1:9<c.2.2.1.length
  ·rw[if_pos (by simp[igt]; omega),if_pos (by simp[h1])]
  ·rw[if_neg (by simp[igt]; omega),Ď]
   by_cases h2:9<c.2.2.2.1.length
   ·rw[if_pos (by simp[igt]; omega),if_pos (by simp[h2])]
   ·rw[if_neg (by simp[igt]; omega),if_neg (by simp[h1,h2])]
 ·refine eA ?_ (eA (Ĺ (m.2.take 8) (fun x=>decide (9<x.2.length)) (fun _=>some false) (some false) (some (J4 m)) (f:=fun v kk=>ln m.2 v (fun u=>kk u) (fun z=>some z) (fun _=>some (J4 m))) (fun _=>rfl) (fun i x hi hx kn'=>?_) (fun kn'=>?_)) ?_)
  ·try dsimp only
   unfold o8;rw[List.length_take,Ď]
   split
   ·rename_i h
    have h':60<m.1.2.2.2.2.1.length:=by rw[Ò] at h; simp[ilt] at h; omega
    rw[Í (by simp[ilt]; omega)]
   ·rfl
  ·try dsimp only
   unfold ln;rw[List.length_take] at hi
   have hx':m.2[i]?=some x:=by rw[dO] at hx; split at hx<;>simp_all
   rw[Ð (show i<m.2.length by omega),Ø (by simp[ilt]; omega),È hx',Ô (by omega) (by omega),Ď,Ò]
   by_cases h1:9<x.2.length
   ·rw[if_pos (by simp[igt]; omega),if_pos (by simp[h1])]
   ·rw[if_neg (by simp[igt]; omega),if_neg (by simp[h1])]
  ·try dsimp only
   unfold ln;rw[List.length_take,Ď]
   split
   ·rename_i h
    have h':8<m.2.length:=by rw[Ò] at h; simp[ilt] at h; omega
    rw[Í (by simp[ilt]; omega)]
   ·rfl
  ·cases List.any (List.take 8 m.2) (fun x=>decide (9<x.2.length))<;>rfl
 ·unfold Us
  cases List.any (List.take 60 m.1.2.2.2.2.1) bigP<;>rfl
structure Small7 (m:ŕ):Prop where
 inn:In m.1
 n6:m.2.length≤6
 l9:∀x∈m.2,x.2.length≤9
 c8:m.1.2.2.2.2.1.length≤8
def adC {m:ŕ} (h:Us m=true) (hn:∀g∈m.1.2.1,I64 g.2.2.2.2.1.1):Small7 m:=by
 simp only[Us,J4,cH,ee,decide_eq_true_eq] at h;obtain⟨h0,h1,h2,h3,h4,h5,h6,h7⟩:=h;refine⟨⟨⟨by omega,by omega,by omega,by omega,by omega,fun c hc=>?_⟩,hn⟩,h7,fun x hx=>?_,h5⟩
 ·rw[dU (by omega)] at h0;have:=dM.1 h0 c hc;simp[bigP] at this;omega
 ·rw[dU (by omega)] at h1;have:=dM.1 h1 x hx;simp at this;omega
def ade {m:ŕ} (h:MOk m) {w:Way} (hw:Ħ m.2 w):∀l∈w,l.length≤100000:=by
 intro l hl;obtain⟨i,hi,rfl⟩:=cS.1 hl;obtain⟨x,hx⟩:∃x,m.2[i]?=some x:=⟨_,cF (by rw[←hw.len]; exact hi)⟩;obtain⟨l',h1,h2⟩:=hw.at hx;rw[cF hi] at h1;cases h1;have:=h.len5 x (cO hx);rw[h2.length_eq]; omega
def idW (ms:List Mx):Way:=ms.map fun x=>x.2
def aeP:∀ms:List Mx,Ħ ms (idW ms)
 |[]=>trivial
 |m::ms=>⟨List.Perm.refl _,aeP ms⟩
def Ub:∀{l m:List Int},l.length=m.length→(T6 l m=0↔l=m)
 |[],[],_=>by simp[T6]
 |[],_::_,h=>by simp at h
 |_::_,[],h=>by simp at h
 |x::l,y::m,h=>by
  have ih:=Ub (l:=l) (m:=m) (by simpa using h);have hb:=FP l m;rw[T6,List.cons.injEq,←ih]
  by_cases he:y=x
  ·rw[if_pos he]; constructor
   ·intro e; exact⟨he.symm,by omega⟩
   ·intro e; omega
  ·rw[if_neg he]; constructor
   ·intro e; omega
   ·intro e; exact absurd e.1.symm he
def XM:∀(ms:List Mx) (w:Way),0≤Af ms w
 |[],w=>by simp[Af]
 |m::ms,[]=>by unfold Af; exact Int.le_refl _
 |m::ms,l::ls=>by
  have h1:=FP l m.2;have h2:=XM ms ls;rw[Af]; omega
def CY:∀{ms:List Mx} {w:Way},Ħ ms w→(Af ms w=0↔w=idW ms)
 |[],[],_=>by simp[Af,idW]
 |m::ms,l::ls,h=>by
  have h1:=Ub (l:=l) (m:=m.2) h.1.length_eq;have h2:=CY h.2;have b1:=FP l m.2;have b2:=XM ms ls;rw[Af,idW,eE,List.cons.injEq,←h1,show(List.map (fun x:Mx=>x.2) ms)=idW ms from rfl,←h2];constructor
  ·intro e; exact⟨by omega,by omega⟩
  ·intro e; omega
def acu {α β:Type} {f:α→List β} {l:List α} (hl:l.Nodup) (hf:∀a∈l,(f a).Nodup) (hd:∀a b,a≠b→∀x∈f a,∀y∈f b,x≠y):(l.flatMap f).Nodup:=by
 unfold List.Nodup;rw[List.pairwise_flatMap];exact⟨hf,hl.imp fun hne=>hd _ _ hne⟩
def PO:∀{n:Nat} {l:List Int},l.length=n→l.Nodup→(F8 n l).Nodup
 |0,_,_,_=>by simp[F8]
 |n+1,l,h,hn=>by
  rw[F8,if_neg (by omega)]
  have hg:∀i (hi:i<l.length),l.getD i 0=l[i]:=fun i hi=>by rw[d9,cF hi]; rfl
  unfold List.Nodup;rw[List.pairwise_flatMap];refine⟨fun i hi=>List.pairwise_map.2 ((PO (n:=n) (l:=l.take i++l.drop (i+1)) (by simp at hi ⊢; omega) ?_).imp fun hne e=>hne (List.cons.inj e).2),?_⟩
  ·rw[fO] at hi;exact(eM.1 ((Q0 hi).nodup_iff.2 hn)).2
  ·refine List.Pairwise.imp_of_mem (R:=(·≠·)) ?_ List.nodup_range;intro i j hi hj hne x hx y hy e;rw[fO] at hi hj;obtain⟨a,_,rfl⟩:=df.1 hx;obtain⟨b,_,rfl⟩:=df.1 hy;have:=(List.cons.inj e).1;rw[hg i hi,hg j hj] at this;exact hne ((List.getElem_inj hn).1 this)
def Ng:∀{ms:List Mx},(∀x∈ms,x.2.Nodup)→(jc ms).Nodup
 |[],_=>by simp[jc]
 |m::ms,h=>by
  rw[jc];refine acu (PO rfl (h m (by simp))) (fun x _=>List.pairwise_map.2 ((Ng fun y hy=>h y (du _ hy)).imp fun hne e=>hne (List.cons.inj e).2)) fun a b hne x hx y hy e=>?_;obtain⟨_,_,rfl⟩:=df.1 hx;obtain⟨_,_,rfl⟩:=df.1 hy;exact hne (List.cons.inj e).1
def XN {ms:List Mx} (h:∀x∈ms,x.2.Nodup):(ĥ ms).Nodup:=((ł (key:=Af ms) (jc ms)).perm).nodup_iff.2 (Ng h)
def abG {ms:List Mx} (h:∀x∈ms,x.2.Nodup):∃t,ĥ ms=idW ms::t∧∀w∈t,Ħ ms w∧Af ms w≠0:=by
 have hs:Srt (Af ms) (ĥ ms):=jt _;have hi:idW ms∈ĥ ms:=ny.2 (aeP ms);have hn:=XN h
 cases hw:ĥ ms with
 |nil=>rw[hw] at hi; cases hi
 |cons x t =>
  rw[hw] at hi hs hn;have hx:Ħ ms x:=ny.1 (by rw[hw]; simp);have hz:Af ms (idW ms)=0:=(CY (aeP ms)).2 rfl;have b2:=XM ms x
  have hx0:x=idW ms:=by
   rcases cN.1 hi with e|e
   ·exact e.symm
   ·refine(CY hx).1 ?_;have:=(dt.1 hs).1 _ e;omega
  subst hx0;refine⟨t,rfl,fun w hwt=>?_⟩;have hwo:Ħ ms w:=ny.1 (by rw[hw]; simp[hwt]);refine⟨hwo,fun e=>?_⟩;have:=(CY hwo).1 e;subst this;exact(eM.1 hn).1 hwt
def PV (x y:Int) (s:Int×Int):∀M:Fnd,l5 (k:=tI) (v:=Ã) x (Kx (k:=tI) (v:=Ã) y s M)=if x=y then some s else l5 (k:=tI) (v:=Ã) x M
 |[]=>by
  unfold Kx l5 ž l5
  by_cases h:x=y<;>simp[h]
 |e::M=>by
  unfold Kx
  by_cases h:y=e.1
  ·have:ž tI y e.1=true:=by simp[ž,h]
   rw[this];simp only;unfold l5
   by_cases hx:x=y
   ·subst hx; simp[ž]
   ·have:ž tI x y=false:=by simp[ž,hx]
    have h2:ž tI x e.1=false:=by simp[ž,←h,hx]
    rw[this,if_neg hx];simp only[h2]
  ·have:ž tI y e.1=false:=by simp[ž,h]
   rw[this];simp only;unfold l5
   by_cases hx:x=e.1
   ·subst hx;rw[if_neg (fun e=>h e.symm)];simp[ž]
   ·have h2:ž tI x e.1=false:=by simp[ž,hx]
    rw[h2];exact PV x y s M
section
variable {m:ŕ} {label d:Int}
def abH (m:ŕ) (label d:Int) (w:Way):Int×Int:=(wp (trP m w) (η m.2 w label d,d)).1
def aiz (m:ŕ) (label d:Int) (l:List Way) (g:Int):Option (Int×Int)→Prop
 |none=>∀w∈l,η m.2 w label d≠g
 |some s=>(∃w∈l,η m.2 w label d=g∧(abH m label d w).1=s.1)∧(∃w∈l,η m.2 w label d=g∧(abH m label d w).2=s.2)∧∀w∈l,η m.2 w label d=g→s.1≤(abH m label d w).1∧(abH m label d w).2≤s.2
def act (l:List Way) (w:Way):kS m label d (l++[w])=ae0 m label d (kS m label d l) w:=by rw[kS,List.foldl_append]; rfl
def Qr (g:Int):∀n (l:List Way),l.length=n→aiz m label d l g (l5 (k:=tI) (v:=Ã) g (kS m label d l))
 |0,l,h=>by
  have:l=[]:=cX.1 h;subst this;intro w hw; cases hw
 |n+1,l,h=>by
  obtain⟨l',w,rfl⟩:∃l' w,l=l'++[w]:=⟨l.dropLast,l.getLast (by intro e; rw[e] at h; simp at h),(List.dropLast_concat_getLast _).symm⟩;have ih:=Qr g n l' (by simpa using h);rw[act,ae0,PV]
  by_cases hg:g=η m.2 w label d
  ·rw[if_pos hg,←hg]
   cases hm:l5 (k:=tI) (v:=Ã) g (kS m label d l') with
   |none =>
    rw[hm] at ih;dsimp only;refine⟨⟨w,by simp,hg.symm,by unfold abH; rw[←hg]⟩,⟨w,by simp,hg.symm,by unfold abH; rw[←hg]⟩,fun v hv e=>?_⟩;rcases List.mem_append.1 hv with hv|hv
    ·exact absurd e (ih v hv)
    ·rw[List.mem_singleton.1 hv];unfold abH;rw[←hg];exact⟨Int.le_refl _,Int.le_refl _⟩
   |some s =>
    rw[hm] at ih;dsimp only;obtain⟨⟨w1,a1,a2,a3⟩,⟨w2,b1,b2,b3⟩,c⟩:=ih
    have hw:(wp (trP m w) (g,d)).1=abH m label d w:=by unfold abH; rw[←hg]
    rw[hw];refine⟨?_,?_,fun v hv e=>?_⟩
    ·rcases Int.le_total (abH m label d w).1 s.1 with h1|h1
     ·exact⟨w,by simp,hg.symm,by unfold acr; omega⟩
     ·exact⟨w1,by simp[a1],a2,by unfold acr; omega⟩
    ·rcases Int.le_total (abH m label d w).2 s.2 with h1|h1
     ·exact⟨w2,by simp[b1],b2,by unfold acr; omega⟩
     ·exact⟨w,by simp,hg.symm,by unfold acr; omega⟩
    ·unfold acr;rcases List.mem_append.1 hv with hv|hv
     ·have:=c v hv e; omega
     ·rw[cP.1 hv]; omega
  ·rw[if_neg hg]
   cases hm:l5 (k:=tI) (v:=Ã) g (kS m label d l') with
   |none =>
    rw[hm] at ih;intro v hv;rcases cM.1 hv with hv|hv
    ·exact ih v hv
    ·rw[cP.1 hv]; exact fun e=>hg e.symm
   |some s =>
    rw[hm] at ih;obtain⟨⟨w1,a1,a2,a3⟩,⟨w2,b1,b2,b3⟩,c⟩:=ih;refine⟨⟨w1,by simp[a1],a2,a3⟩,⟨w2,by simp[b1],b2,b3⟩,fun v hv e=>?_⟩;rcases cM.1 hv with hv|hv
    ·exact c v hv e
    ·rw[cP.1 hv] at e; exact absurd e.symm hg
end
def ajg (m:ŕ) (n:Int×Int):ŕ:=(Ő m.1 n,m.2)
def aiJ (m:ŕ) (w:Way) (n:Int×Int):trP (ajg m n) w=Ő (trP m w) (xf m w n):=by
 show(_,_,_,_,_,(m.1.2.2.2.2.2++[n]).map _)=_;rw[fj];rfl
def ack {b:ë} {n:Int×Int}:FI b n↔n∈Ê b:=nE.symm
def ag8 (b:ë) (n:Int×Int):Int:=if 10≤b.2.2.2.2.2.length then 2 else if HF (ő b) n.1 n.2≠0 then HF (ő b) n.1 n.2 else if 59<(Ê (Ő b n)).length then 2 else if 300<2*(Ê (Ő b n)).length+2*b.2.2.2.2.1.length then 2 else 0
def Qe {b:ë} (h:Ł b) (n:Int×Int):ñ (Ő b n)=ag8 b n:=by
 have h1:=h.nG; have h2:=h.nU; have h3:=h.nL; have h4:=h.nC; have h5:=h.nK
 have hf:mu b.1 0 1000000=true:=by simp[mu]; exact h.film
 unfold ñ ag8;show(if !mu b.1 0 1000000 then(1:Int) else if 12<b.2.1.length then 2 else if 40<b.2.2.1.length then 2 else if 12<b.2.2.2.1.length then 2 else if 40<b.2.2.2.2.1.length then 2 else if 10<(b.2.2.2.2.2++[n]).length then 2 else _)=_;rw[hf,if_neg (by simp),if_neg (by omega),if_neg (by omega),if_neg (by omega),if_neg (by omega),List.length_append,List.length_singleton]
 by_cases hk:10≤b.2.2.2.2.2.length
 ·rw[if_pos (by omega),if_pos hk]
 ·rw[if_neg (by omega),if_neg hk];have hge:mW (Ő b n)=0:=(CI _).2 ⟨h.gauge,h.ids⟩;rw[hge,if_neg (by simp)]
  have hparts:(qW (Ő b n) (ő (Ő b n))).find? (fun e=>e != 0)=if HF (ő b) n.1 n.2≠0 then some (HF (ő b) n.1 n.2) else none:=by
   have e:qW (Ő b n) (ő (Ő b n))=qW b (ő b)++[HF (ő b) n.1 n.2]:=by
    unfold qW;show b.2.2.1.map _++(b.2.2.2.1.mapIdx _++(b.2.2.2.2.1.mapIdx _++(b.2.2.2.2.2++[n]).map _))=_;rw[List.map_append];simp only[List.append_assoc];rfl
   have hz:(qW b (ő b)).find? (fun e=>e != 0)=none:=by
    rw[List.find?_eq_none];intro e he;unfold qW at he;simp only[List.mem_append,List.mem_map,List.mem_mapIdx] at he;rcases he with⟨u,hu,rfl⟩|⟨i,hi,rfl⟩|⟨i,hi,rfl⟩|⟨u,hu,rfl⟩
    ·simp[h.uses u hu]
    ·simp[h.loans i _ (cF hi)]
    ·simp[h.compares i _ (cF hi)]
    ·simp[h.looks u hu]
   rw[e,List.find?_append,hz,Option.none_or,fF]
   by_cases hu:HF (ő b) n.1 n.2=0
   ·simp[hu]
   ·rw[show(HF (ő b) n.1 n.2 != 0)=true from bne_iff_ne.2 hu,if_pos hu]
  rw[hparts]
  by_cases hu:HF (ő b) n.1 n.2=0
  ·rw[if_neg (show ¬(HF (ő b) n.1 n.2≠0) from fun h=>h hu),if_neg (show ¬(HF (ő b) n.1 n.2≠0) from fun h=>h hu)];dsimp only;have hl:(Ő b n).2.1.length=b.2.1.length∧(Ő b n).2.2.2.2.1.length=b.2.2.2.2.1.length:=⟨rfl,rfl⟩;rw[hl.1,hl.2]
   split
   ·rfl
   ·by_cases hh:300<2*(Ê (Ő b n)).length+2*b.2.2.2.2.1.length
    ·rw[if_pos (by omega),if_pos hh]
    ·rw[if_neg (by omega),if_neg hh]
  ·rw[if_pos hu,if_pos hu]
def aaI {b:ë} (hi:b.2.1.Pairwise fun a c=>a.1<c.1) {n:Int×Int} (hn:∃g,ø b n.1=some g):(Ê (Ő b n)).length=if n∈Ê b then(Ê b).length else(Ê b).length+1:=by
 have key:∀g∈b.2.1,∀e,e∈ß (Ő b n) g↔e∈ß b g∨(n.1=g.1∧n.2=e):=fun g _ e=>by
  rw[Β,Β];show _∨_∨(∃x∈b.2.2.2.2.2++[n],x.1=g.1∧x.2=e)↔_;simp only[cM,cP];constructor
  ·rintro(h|h|⟨x,hx|rfl,h⟩)
   ·exact .inl (.inl h)
   ·exact .inl (.inr (.inl h))
   ·exact .inl (.inr (.inr ⟨x,hx,h⟩))
   ·exact .inr h
  ·rintro((h|h|⟨x,hx,h⟩)|h)
   ·exact .inl h
   ·exact .inr (.inl h)
   ·exact .inr (.inr ⟨x,.inl hx,h⟩)
   ·exact .inr (.inr ⟨n,.inr rfl,h⟩)
 have mem:∀p:Int×Int,p∈Ê (Ő b n)↔p∈Ê b∨p=n:=fun p=>by
  rw[show p=(p.1,p.2) from rfl,nE,nE];constructor
  ·rintro⟨g,hg,e,hd⟩;have hg:g∈b.2.1:=hg;rcases(key g hg p.2).1 hd with h|⟨h1,h2⟩
   ·exact .inl ⟨g,hg,e,h⟩
   ·exact .inr (Prod.ext (e.symm.trans h1.symm) h2.symm)
  ·rintro(⟨g,hg,e,hd⟩|h)
   ·exact⟨g,hg,e,(key g hg p.2).2 (.inl hd)⟩
   ·obtain⟨g,hgo⟩:=hn;obtain⟨g1,g2⟩:=Τ hgo;have h1:p=n:=h;subst h1;exact⟨g,g1,g2,(key g g1 p.2).2 (.inr ⟨g2.symm,rfl⟩)⟩
 have nd:=pU (b:=Ő b n) hi;have nd0:=pU hi
 split
 ·rename_i hin;exact Nat.le_antisymm (dY nd fun p hp=>((mem p).1 hp).elim id fun e=>e▸hin) (dY nd0 fun p hp=>(mem p).2 (.inl hp))
 ·rename_i hin;have nd1:(n::Ê b).Nodup:=eM.2 ⟨hin,nd0⟩;have:=Nat.le_antisymm (dY nd (l₂:=n::Ê b) fun p hp=>((mem p).1 hp).elim (fun h=>du _ h) fun e=>by rw[e]; simp) (dY nd1 fun p hp=>(cN.1 hp).elim (fun e=>(mem p).2 (.inr e)) fun h=>(mem p).2 (.inl h));rw[this,cW]
section
variable {m:ŕ} {w:Way} {n:Int×Int}
def aaB (h:MOk m) (hw:Ħ m.2 w):xf m w n∈Ê (trP m w)↔n∈Ê m.1:=by
 constructor
 ·intro hn;obtain⟨x,e,hx⟩:=HH (y:=(xf m w n).1) (d:=n.2) h hw hn;have:x=n.1:=h.inj hw e;subst this;exact hx
 ·intro hn;exact ado h hw (x:=n.1) (d:=n.2) hn
def use_T (h:MOk m) (hw:Ħ m.2 w) (hk:xb m.1 n.1):HF (ő (trP m w)) (xf m w n).1 n.2=HF (ő m.1) n.1 n.2:=by
 show HF (ő m.1) (η m.2 w n.1 n.2) n.2=_;unfold HF
 cases hd:JT n.2 with
 |false=>rfl
 |true =>
  simp only[dB,cV,if_false];obtain⟨g,hg⟩:=hk
  by_cases hm:g.2.1≤n.2
  ·rw[(tE h.good.ids).2 ⟨g,hg,hm⟩,(tE h.good.ids).2 (h.whoG hw ⟨g,hg,hm⟩)]
  ·have:η m.2 w n.1 n.2=n.1:=CX hw fun y hy hd hx=>by
    obtain⟨g',e1,e2⟩:=(h.mix hy).known _ hx;rw[hg] at e1; cases e1;omega
   rw[this]
def look_T (h:MOk m) (hw:Ħ m.2 w) (hk:xb m.1 n.1):ñ (Ő (trP m w) (xf m w n))=ñ (Ő m.1 n):=by
 have hg:=oA h hw
 have e1:(trP m w).2.2.2.2.2.length=m.1.2.2.2.2.2.length:=by show(m.1.2.2.2.2.2.map _).length=_; rw[dA]
 have e2:(trP m w).2.2.2.2.1.length=m.1.2.2.2.2.1.length:=by show(m.1.2.2.2.2.1.map _).length=_; rw[dA]
 have hk':∃g,ø (trP m w) (xf m w n).1=some g:=h.whoK hw hk;have e3:=aaI (b:=trP m w) (adq h) hk';have e4:=aaI (b:=m.1) h.good.ids hk
 have e5:(Ê (Ő (trP m w) (xf m w n))).length=(Ê (Ő m.1 n)).length:=by
  rw[e3,e4,adp h hw]
  by_cases hn:n∈Ê m.1
  ·rw[if_pos ((aaB h hw).2 hn),if_pos hn]
  ·rw[if_neg fun hx=>hn ((aaB h hw).1 hx),if_neg hn]
 rw[Qe hg,Qe h.good,ag8,ag8,e1,e2,e5];have:=use_T h hw hk;rw[show HF (ő (trP m w)) (xf m w n).1 (xf m w n).2=_ from this]
def Tn {b:ë} (h:Ł b) {n:Int×Int}:Jm b n.1 n.2=0↔n∉Ê b:=by
 rw[←ack,←EW h];omega
def adv (h:MOk m) (hw:Ħ m.2 w) (hk:xb m.1 n.1):iB (trP m w) (xf m w n)=if n∈Ê m.1 then(trP m w,0) else if ñ (Ő m.1 n)≠0 then(Jr,ñ (Ő m.1 n)) else(trP (ajg m n) w,0):=by
 have hg:=oA h hw;unfold iB;rw[look_T h hw hk,aiJ]
 by_cases hn:n∈Ê m.1
 ·rw[if_pos (fun e=>(Tn hg).1 e ((aaB h hw).2 hn)),if_pos hn]
 ·rw[if_neg (by have:=(Tn hg).2 fun hx=>hn ((aaB h hw).1 hx); simpa using this),if_neg hn]
def aiQ (h:MOk m) (hw:Ħ m.2 w) (hk:xb m.1 n.1) (hn:n∈Ê m.1):iB (trP m w) (xf m w n)=(trP m w,0):=by rw[adv h hw hk,if_pos hn]
def agF (h:MOk m) (hw:Ħ m.2 w) (hk:xb m.1 n.1) (hn:n∉Ê m.1) (hc:ñ (Ő m.1 n)≠0):iB (trP m w) (xf m w n)=(Jr,ñ (Ő m.1 n)):=by rw[adv h hw hk,if_neg hn,if_pos hc]
def agD (h:MOk m) (hw:Ħ m.2 w) (hk:xb m.1 n.1) (hn:n∉Ê m.1) (hc:ñ (Ő m.1 n)=0):iB (trP m w) (xf m w n)=(trP (ajg m n) w,0):=by rw[adv h hw hk,if_neg hn,if_neg (fun e=>e hc)]
def QT (m:ŕ) (n:Int×Int):Int:=if n∈Ê m.1 then 0 else ñ (Ő m.1 n)
def aiC (h:MOk m) (hw:Ħ m.2 w) (hk:xb m.1 n.1):ZY m n.1 n.2 w=QT m n:=by
 unfold ZY wp QT;rw[show((η m.2 w n.1 n.2,n.2):Int×Int)=xf m w n from rfl]
 by_cases hn:n∈Ê m.1
 ·rw[aiQ h hw hk hn,if_pos hn,if_neg (by simp)]
 ·rw[if_neg hn]
  by_cases hc:ñ (Ő m.1 n)=0
  ·rw[agD h hw hk hn hc,if_neg (by simp),hc]
  ·rw[agF h hw hk hn hc,if_pos hc]
def zb (h:MOk m) (label d:Int):oN m label d=if lN m.1 label d≠0 then([],lN m.1 label d) else if iZ m=[] then([],5) else if QT m (label,d)≠0 then([],QT m (label,d)) else
 (m.1.2.1.filterMap fun g=>(l5 (k:=tI) (v:=Ã) g.1 (kS m label d (iZ m))).map fun s=>(g.1,s),0):=by
 have hc:¬(ļ m≠0):=fun e=>e ((Ŋ m).2 h);unfold oN;rw[if_neg hc]
 by_cases hk:lN m.1 label d=0
 ·have hk':¬(lN m.1 label d≠0):=fun e=>e hk;rw[if_neg hk',if_neg hk']
  by_cases hg:iZ m=[]
  ·rw[if_pos hg,if_pos hg]
  ·rw[if_neg hg,if_neg hg];have hkg:=(MD.1 hk).2;have hw:∀w∈iZ m,ZY m label d w=QT m (label,d):=fun w hw=>aiC (n:=(label,d)) h (JM hw).1 hkg
   by_cases he:QT m (label,d)=0
   ·have:(iZ m).findSome? (fun w=>XH (ZY m label d w))=none:=List.findSome?_eq_none_iff.2 fun w hw'=>by rw[hw w hw',he]; rfl
    rw[this,if_neg (fun e=>e he)]
   ·have:(iZ m).findSome? (fun w=>XH (ZY m label d w))=some (QT m (label,d)):=by
     cases hgl:iZ m with
     |nil=>exact absurd hgl hg
     |cons x t =>
      rw[gb,hw x (by rw[hgl]; simp)];simp[XH,he]
    rw[this,if_pos he]
 ·rw[if_pos hk,if_pos hk]
end
section
variable {b:ë}
def afi (b:ë) (g:ò) (k:Nat):Int:=(ß b g)[k]?.getD 0
def uV {g:ò} {k:Nat} (hk:k<(ß b g).length):(ß b g)[k]?=some (afi b g k):=by
 unfold afi;rw[List.getElem?_eq_getElem hk];rfl
end
end Go.Proofs.ZzM
end
