/- lemmas -/
import Derived.Test.YtdmegkgjpgcfgaaGreatMdPA
import Derived.Test.YtdmegkgjpgcfgaaGreatMdTA
set_option linter.all false
set_option linter.unusedSectionVars false
set_option linter.unusedVariables false
set_option linter.unusedSimpArgs false
noncomputable section
namespace Go.Proofs.ZzM
open Go Go.Am
abbrev Lk:Type:=Int×Int×Int
inductive Wl (L:List Lk) (S:Int→Prop):List Int→Int→Int→Prop
 |nil {v:Int}:S v→Wl L S [] v 0
 |step {vs:List Int} {u v m d:Int}:Wl L S vs u d→(u,v,m)∈L→Wl L S (u::vs) v (d+m)
def Pot (L:List Lk) (p:Int→Int):Prop:=∀u v m,(u,v,m)∈L→p v≤p u+m
def InR (L:List Lk) (N:Nat):Prop:=∀l∈L,(0≤l.1∧l.1<N)∧(0≤l.2.1∧l.2.1<N)
section
variable {L:List Lk} {S:Int→Prop} {N:Nat} {p:Int→Int}
def Wl.cut (hp:Pot L p) {vs:List Int} {v d:Int} (h:Wl L S vs v d):∀x∈vs,∃vs1 d1,Wl L S vs1 x d1∧(x::vs1) <:+ vs∧d1+(p v-p x)≤d:=by
 induction h with
 |nil h=>intro x hx; cases hx
 | @step vs u v m d hw hl ih =>
  intro x hx;have h1:=hp u v m hl;rcases cM.1 hx with rfl|hx
  ·exact⟨vs,d,hw,List.suffix_refl _,by omega⟩
  ·obtain⟨vs1,d1,g1,g2,g3⟩:=ih x hx;exact⟨vs1,d1,g1,g2.trans (List.suffix_cons _ _),by omega⟩
def Wl.simple (hp:Pot L p) {vs:List Int} {v d:Int} (h:Wl L S vs v d):∃vs' d',Wl L S vs' v d'∧d'≤d∧(v::vs').Nodup:=by
 induction h with
 |nil h=>exact⟨[],0,.nil h,dR _,by simp⟩
 | @step vs u v m d hw hl ih =>
  obtain⟨vs1,d1,g1,g2,g3⟩:=ih;have hw1:=Wl.step g1 hl
  by_cases hv:v∈u::vs1
  ·obtain⟨vs2,d2,k1,k2,k3⟩:=hw1.cut hp v hv;exact⟨vs2,d2,k1,by omega,g3.sublist k2.sublist⟩
  ·exact⟨u::vs1,d1+m,hw1,by omega,eX.2 ⟨hv,g3⟩⟩
def Wl.range (hL:InR L N) (hS:∀v,S v→0≤v∧v<N) {vs:List Int} {v d:Int} (h:Wl L S vs v d):(0≤v∧v<N)∧∀u∈vs,0≤u∧u<N:=by
 induction h with
 |nil h=>exact⟨hS _ h,fun u hu=>by cases hu⟩
 | @step vs u v m d hw hl ih =>
  refine⟨(hL _ hl).2,fun w hw'=>?_⟩;rcases cM.1 hw' with rfl|h
  ·exact ih.1
  ·exact ih.2 w h
def X0:∀(N:Nat) (l:List Int),l.Nodup→(∀x∈l,0≤x∧x<N)→l.length≤N
 |0,l,_,h=>by
  cases l with
  |nil=>simp
  |cons a l=>have:=h a (by simp); omega
 |N+1,l,hn,h=>by
  have h1:(l.erase (N:Int)).length≤N:=X0 N _ (hn.erase _) fun x hx=>by
   have h2:=(hn.mem_erase_iff).1 hx;have:=h x h2.2;have:=h2.1;omega
  have:=List.length_erase (a:=(N:Int)) (l:=l)
  split at this<;>omega
def Wl.short (hL:InR L N) (hS:∀v,S v→0≤v∧v<N) {vs:List Int} {v d:Int} (h:Wl L S vs v d) (hn:(v::vs).Nodup):vs.length+1≤N:=by
 have:=h.range hL hS
 exact X0 N (v::vs) hn fun x hx=>by
  rcases cM.1 hx with rfl|hx
  ·exact this.1
  ·exact this.2 x hx
def G7 (f:Lk→Bool):List Lk→Int
 |[]=>0
 |l::t=>(if f l then min l.2.2 0 else 0)+G7 f t
def abO (f:Lk→Bool):∀L:List Lk,G7 (fun _=>true) L≤G7 f L
 |[]=>dR _
 |l::t=>by
  have:=abO f t;simp only[G7,if_true]
  split<;>omega
def ug (f:Lk→Bool):∀L:List Lk,G7 f L≤0
 |[]=>dR _
 |l::t=>by
  have:=ug f t;simp only[G7]
  split<;>omega
def Yh {f:Lk→Bool} {l:Lk} (hf:f l=true):∀{L:List Lk},l∈L→G7 f L≤l.2.2
 |a::t,h=>by
  simp only[G7];rcases cM.1 h with rfl|h
  ·have:=ug f t;rw[if_pos hf]; omega
  ·have:=Yh hf h
   split<;>omega
def abN {f g:Lk→Bool} (h:∀l,f l=true→g l=false):∀L:List Lk,G7 (fun l=>f l||g l) L=G7 f L+G7 g L
 |[]=>rfl
 |l::t=>by
  have ih:=abN h t;simp only[G7,ih]
  by_cases hf:f l=true
  ·simp[hf,h l hf]; omega
  ·have hf':f l=false:=by simpa using hf
   by_cases hg:g l=true
   ·simp[hf',hg]; omega
   ·simp[hf',hg]
def Wl.low {vs:List Int} {v d:Int} (h:Wl L S vs v d):vs.Nodup→G7 (fun l=>vs.contains l.1) L≤d:=by
 induction h with
 |nil h=>intro _; exact ug _ _
 | @step vs u v m d hw hl ih =>
  intro hn;rw[eX] at hn;have h1:=ih hn.2;have h2:G7 (fun l=>l.1==u) L≤m:=Yh (f:=fun l=>l.1==u) (l:=(u,v,m)) (by simp) hl
  have h3:=abN (f:=fun l:Lk=>l.1==u) (g:=fun l=>vs.contains l.1) (fun l hf=>by
   simp only[beq_iff_eq] at hf;rw[hf]
   simpa using hn.1) L
  have h4:(fun l:Lk=>(u::vs).contains l.1)=fun l=>(l.1==u)||vs.contains l.1:=by funext l; rw[List.contains_cons]
  rw[h4,h3];omega
def H8 (L:List Lk):Int:=G7 (fun _=>true) L
def Wl.low' (hp:Pot L p) {vs:List Int} {v d:Int} (h:Wl L S vs v d):H8 L≤d:=by
 obtain⟨vs',d',h1,h2,h3⟩:=h.simple hp;have:=h1.low (List.nodup_cons.1 h3).2;have:=abO (fun l=>vs'.contains l.1) L;unfold H8;omega
def Wl.high {M:Int} (hM:∀l∈L,l.2.2≤M) {vs:List Int} {v d:Int} (h:Wl L S vs v d):d≤vs.length*M:=by
 induction h with
 |nil h=>simp
 | @step vs u v m d hw hl ih =>
  have:=hM _ hl;simp only[cS,gh,f5,gk];simp only at this;omega
def Wl.lowM {M:Int} (hM:∀l∈L,-M≤l.2.2) {vs:List Int} {v d:Int} (h:Wl L S vs v d) : -(vs.length*M)≤d:=by
 induction h with
 |nil h=>simp
 | @step vs u v m d hw hl ih =>
  have:=hM _ hl;simp only[cS,gh,f5,gk];simp only at this;omega
def Wl.mono {S':Int→Prop} (hS:∀v,S v→S' v) {vs:List Int} {v d:Int} (h:Wl L S vs v d):Wl L S' vs v d:=by
 induction h with
 |nil h=>exact .nil (hS _ h)
 |step hw hl ih=>exact .step ih hl
def Wl.pot (hp:Pot L p) {vs:List Int} {v d:Int} (h:Wl L S vs v d):∃s,S s∧p v-p s≤d:=by
 induction h with
 | @nil v h=>exact⟨v,h,by omega⟩
 | @step vs u v m d hw hl ih =>
  obtain⟨s,h1,h2⟩:=ih;have:=hp u v m hl;exact⟨s,h1,by omega⟩
end
abbrev ş:Int:=1152921504606846976
structure aaG (L:List Lk) (S:Int→Prop) (N:Nat) (x:Int→Int):Prop where
 att:∀v:Int,0≤v→v<N→x v≠ş→∃vs,Wl L S vs v (x v)
 low:∀v vs d,Wl L S vs v d→x v≤d
 bd:∀v:Int,0≤v→v<N→x v≤ş
def aaG.uniq {L:List Lk} {S:Int→Prop} {N:Nat} {x y:Int→Int} (hx:aaG L S N x) (hy:aaG L S N y) {v:Int} (h0:0≤v) (h1:v<N):x v=y v:=by
 have key:∀{x y:Int→Int},aaG L S N x→aaG L S N y→x v≤y v:=by
  intro x y hx hy
  by_cases h:y v=ş
  ·rw[h]; exact hx.bd v h0 h1
  ·obtain⟨vs,hw⟩:=hy.att v h0 h1 h;exact hx.low v vs _ hw
 exact Int.le_antisymm (key hx hy) (key hy hx)
def gv (x:List Int) (v:Int):Int:=x[v.toNat]?.getD 0
def Yw {x:List Int} {v:Int} (h:v.toNat<x.length):x[v.toNat]?=some (gv x v):=by
 unfold gv; rw[List.getElem?_eq_getElem h]; rfl
def rk {x:List Int} {u v:Int} (hu:0≤u) (hv:0≤v) (h:u.toNat<x.length) (y:Int):gv (x.set u.toNat y) v=if v=u then y else gv x v:=by
 unfold gv;rw[List.getElem?_set]
 by_cases hvu:v=u
 ·subst hvu; simp[h]
 ·have:¬u.toNat=v.toNat:=by omega
  simp[hvu,this]
def Yx {x y:List Int} (hl:x.length=y.length) (h:∀v:Int,0≤v→v<x.length→gv x v=gv y v):x=y:=by
 refine List.ext_getElem hl fun i h1 h2=>?_;have:=h i (by omega) (by omega);unfold gv at this;simpa[h1,h2] using this
def lL (x:List Int) (l:Lk):List Int:=if gv x l.1<ş∧gv x l.1+l.2.2<gv x l.2.1 then x.set l.2.1.toNat (gv x l.1+l.2.2) else x
def G5 (L:List Lk) (x:List Int):List Int:=L.foldl lL x
def ky (L:List Lk):Nat→List Int→List Int
 |0,x=>x
 |n+1,x=>ky L n (G5 L x)
def og (x:List Int) (l:Lk):(lL x l).length=x.length:=by unfold lL; split<;>simp
def wB (L:List Lk):∀x:List Int,(G5 L x).length=x.length:=by
 induction L with
 |nil=>intro x; rfl
 |cons l t ih=>intro x; show(G5 t (lL x l)).length=_; rw[ih,og]
def Ţ (L:List Lk):∀(n:Nat) (x:List Int),(ky L n x).length=x.length
 |0,x=>rfl
 |n+1,x=>by rw[ky,Ţ L n,wB]
def AQ (L:List Lk):∀(n:Nat) (x:List Int),ky L (n+1) x=G5 L (ky L n x)
 |0,x=>rfl
 |n+1,x=>by rw[ky,AQ L n]; rfl
section
variable {L0:List Lk} {S:Int→Prop} {N:Nat}
def SE {x:List Int} {l:Lk} (hl:(0≤l.1∧l.1<N)∧(0≤l.2.1∧l.2.1<N)) (hx:x.length=N) (v:Int) (hv:0≤v):gv (lL x l) v≤gv x v:=by
 unfold lL
 split
 ·rename_i h;rw[rk hl.2.1 hv (by omega)]
  split
  ·rename_i h2; subst h2; omega
  ·exact dR _
 ·exact dR _
def B7:∀{L:List Lk},InR L N→∀{x:List Int},x.length=N→∀v,0≤v→gv (G5 L x) v≤gv x v
 |[],_,x,_,v,_=>dR _
 |l::t,hL,x,hx,v,hv=>by
  have h1:=SE (hL l (by simp)) hx v hv;have h2:=B7 (L:=t) (fun l hl=>hL l (by simp[hl])) (x:=lL x l) (by rw[og,hx]) v hv;show gv (G5 t (lL x l)) v≤_;omega
def EG:∀{L:List Lk},InR L N→∀{x:List Int},x.length=N→∀u v m,(u,v,m)∈L→gv x u<ş→gv (G5 L x) v≤gv x u+m
 |l::t,hL,x,hx,u,v,m,hm,hf=>by
  have ht:InR t N:=fun l hl=>hL l (by simp[hl])
  have hx':(lL x l).length=N:=by rw[og,hx]
  show gv (G5 t (lL x l)) v≤_;rcases cM.1 hm with rfl|hm
  ·have hl:=hL (u,v,m) (by simp);have h2:=B7 ht hx' v hl.2.1
   have h3:gv (lL x (u,v,m)) v≤gv x u+m:=by
    unfold lL
    split
    ·rw[rk hl.2.1 hl.2.1 (by simp only at hl; simp only; omega),if_pos rfl]; exact dR _
    ·rename_i h; simp only[not_and,Int.not_lt] at h; exact h hf
   omega
  ·have hl:=hL (u,v,m) (by simp[hm]);have h1:=SE (hL l (by simp)) hx u hl.1.1;have:=EG ht hx' u v m hm (by omega);omega
def Att (L0:List Lk) (S:Int→Prop) (N:Nat) (x:List Int):Prop:=∀v:Int,0≤v→v<N→gv x v<ş→∃vs,Wl L0 S vs v (gv x v)
def Zv {x:List Int} {l:Lk} (hl:(0≤l.1∧l.1<N)∧(0≤l.2.1∧l.2.1<N)) (hm:l∈L0) (hx:x.length=N) (h:Att L0 S N x):Att L0 S N (lL x l):=by
 unfold lL
 split
 ·rename_i hc;intro v h0 h1 hf;rw[rk hl.2.1 h0 (by omega)] at hf ⊢
  split
  ·rename_i h2;obtain⟨vs,hw⟩:=h l.1 hl.1.1 hl.1.2 hc.1;exact⟨_,h2▸Wl.step hw hm⟩
  ·rename_i h2;rw[if_neg h2] at hf;exact h v h0 h1 hf
 ·exact h
def SN:∀{L:List Lk},InR L N→(∀l∈L,l∈L0)→∀{x:List Int},x.length=N→Att L0 S N x→Att L0 S N (G5 L x)
 |[],_,_,_,_,h=>h
 |l::t,hL,hsub,x,hx,h=>SN (L:=t) (fun l hl=>hL l (by simp[hl])) (fun l hl=>hsub l (by simp[hl])) (x:=lL x l) (by rw[og,hx]) (Zv (hL l (by simp)) (hsub l (by simp)) hx h)
def NY (hL:InR L0 N):∀(n:Nat) {x:List Int},x.length=N→Att L0 S N x→Att L0 S N (ky L0 n x)
 |0,_,_,h=>h
 |n+1,x,hx,h=>NY hL n (by rw[wB,hx]) (SN hL (fun _ h=>h) hx h)
def B6 (hL:InR L0 N):∀(n:Nat) {x:List Int},x.length=N→∀v,0≤v→gv (ky L0 n x) v≤gv x v
 |0,_,_,_,_=>dR _
 |n+1,x,hx,v,hv=>Int.le_trans (B6 hL n (by rw[wB,hx]) v hv) (B7 hL hx v hv)
def tY (S:Int→Bool) (N:Nat):List Int:=(List.range N).map fun(i:Nat)=>if S i then 0 else ş
def iG (S:Int→Bool) {N:Nat} {v:Int} (h0:0≤v) (h1:v<N):gv (tY S N) v=if S v then 0 else ş:=by
 unfold gv tY
 have:v.toNat<N:=by omega
 rw[eD,fT this];simp only[dK,gL];rw[Int.toNat_of_nonneg h0]
def č (S:Int→Bool) (N:Nat):(tY S N).length=N:=by simp[tY]
end
def EF {L:List Lk} {S:Int→Bool} {N:Nat} {M:Int} (hL:InR L N) (hS:∀v,S v=true→0≤v∧v<N) (hM:∀l∈L,l.2.2≤M):∀(n:Nat),n*M<ş→0≤M→∀vs v d,Wl L (fun v=>S v=true) vs v d→vs.length≤n→gv (ky L n (tY S N)) v≤d
 |0,_,_,vs,v,d,hw,hl=>by
  cases hw with
  |nil h =>
   have:=hS v h;rw[ky,iG S this.1 this.2,if_pos h]; exact dR _
  |step=>simp at hl
 |n+1,hn,hM0,vs,v,d,hw,hl=>by
  have hn':n*M<ş:=by rw[gh,f5,gk] at hn; omega
  have hlen:(ky L n (tY S N)).length=N:=by rw[Ţ,č]
  rw[AQ]
  cases hw with
  |nil h =>
   have h1:=B7 hL hlen v (hS v h).1;have h2:=EF hL hS hM n hn' hM0 [] v 0 (.nil h) (by simp);omega
  | @step vs u _ m d hw hlk =>
   have h2:=EF hL hS hM n hn' hM0 vs u d hw (by simpa using hl);have h3:=hw.high hM;have h4:(vs.length:Int)*M≤n*M:=fp (by simp at hl; omega) hM0;have:=EG hL hlen u v m hlk (by omega);omega
def IU {L:List Lk} {S:Int→Bool} {N:Nat} {M:Int} {p:Int→Int} (hp:Pot L p) (hL:InR L N) (hS:∀v,S v=true→0≤v∧v<N) (hM:∀l∈L,l.2.2≤M) (hM0:0≤M) (hN:N*M<ş) (n:Nat) (hn:N≤n+1):aaG L (fun v=>S v=true) N (gv (ky L n (tY S N))):=by
 have hatt:Att L (fun v=>S v=true) N (tY S N):=fun v h0 h1 hf=>by
  rw[iG S h0 h1] at hf ⊢
  split
  ·rename_i h; exact⟨[],.nil h⟩
  ·rename_i h; rw[if_neg h] at hf; omega
 have hbd:∀v:Int,0≤v→v<N→gv (ky L n (tY S N)) v≤ş:=fun v h0 h1=>by
  have:=B6 hL n (č S N) v h0;rw[iG S h0 h1] at this
  have hF:(0:Int)≤ş:=by decide
  split at this<;>omega
 have hlow:∀(n:Nat),N≤n+1→∀v vs d,Wl L (fun v=>S v=true) vs v d→gv (ky L n (tY S N)) v≤d:=by
  intro n hn v vs d hw;obtain⟨vs',d',h1,h2,h3⟩:=hw.simple hp;have h4:=h1.short hL hS h3
  have hpos:0<N:=by omega
  obtain⟨k,rfl⟩:∃k,N=k+1:=⟨N-1,by omega⟩
  have hk:(k:Int)*M<ş:=by rw[gh,f5,gk] at hN; omega
  have h5:=EF hL hS hM k hk hM0 vs' v d' h1 (by omega);obtain⟨j,rfl⟩:∃j,n=k+j:=⟨n-k,by omega⟩
  have h6:∀(j:Nat),gv (ky L (k+j) (tY S (k+1))) v≤gv (ky L k (tY S (k+1))) v:=by
   intro j
   induction j with
   |zero=>exact dR _
   |succ j ih =>
    rw[←Nat.add_assoc,AQ];have:=B7 hL (x:=ky L (k+j) (tY S (k+1))) (by rw[Ţ,č]) v (h1.range hL hS).1.1;omega
  have:=h6 j;omega
 exact⟨fun v h0 h1 hne=>NY hL n (č S N) hatt v h0 h1 (by have:=hbd v h0 h1; omega),hlow n hn,hbd⟩
def aaG.pot {L:List Lk} {S:Int→Prop} {N:Nat} {x:Int→Int} (h:aaG L S N x) (hL:InR L N) {u v m:Int} (hl:(u,v,m)∈L) (hf:x u≠ş):x v≤x u+m:=by
 obtain⟨vs,hw⟩:=h.att u (hL _ hl).1.1 (hL _ hl).1.2 hf;exact h.low v _ _ (.step hw hl)
section
variable {α:Type} (key:α→Int)
def Srt (l:List α):Prop:=l.Pairwise fun x y=>key x≤key y
def Stb (l s:List α):Prop:=∀k:Int,s.filter (fun x=>key x==k)=l.filter (fun x=>key x==k)
variable {key}
def Stb.refl (l:List α):Stb key l l:=fun _=>rfl
def Stb.symm {l s:List α} (h:Stb key l s):Stb key s l:=fun k=>(h k).symm
def Stb.trans {l s t:List α} (h:Stb key l s) (h2:Stb key s t):Stb key l t:=fun k=>(h2 k).trans (h k)
def Stb.append {l s l' s':List α} (h:Stb key l s) (h2:Stb key l' s'):Stb key (l++l') (s++s'):=fun k=>by
 rw[eo,eo,h k,h2 k]
def Stb.mem {l s:List α} (h:Stb key l s) {x:α}:x∈s↔x∈l:=by
 have:=h (key x);constructor
 ·intro hx;have:x∈s.filter fun y=>key y==key x:=dG.2 ⟨hx,by simp⟩;rw[h] at this;exact(dG.1 this).1
 ·intro hx;have:x∈l.filter fun y=>key y==key x:=dG.2 ⟨hx,by simp⟩;rw[←h] at this;exact(dG.1 this).1
def Stb.swap {u v:List α} (h:∀x∈u,∀y∈v,key x≠key y):Stb key (u++v) (v++u):=fun k=>by
 rw[eo,eo]
 by_cases hu:∃x∈u,key x=k
 ·obtain⟨x,hx,rfl⟩:=hu
  have:v.filter (fun y=>key y==key x)=[]:=gK.2 fun y hy=>by
   have:=h x hx y hy;simp; omega
  rw[this]; simp
 ·have:u.filter (fun y=>key y==k)=[]:=gK.2 fun y hy=>by
   simp;exact fun e=>hu ⟨y,hy,e⟩
  rw[this]; simp
def Stb.uniq:∀{s t:List α},Srt key s→Srt key t→Stb key s t→s=t
 |[],[],_,_,_=>rfl
 |[],y::t,_,_,h=>absurd ((h.mem (x:=y)).1 (by simp)) (by simp)
 |x::s,[],_,_,h=>absurd ((h.mem (x:=x)).2 (by simp)) (by simp)
 |x::s,y::t,hs,ht,h=>by
  have h1:=dv.1 hs;have h2:=dv.1 ht
  have hk:key x=key y:=by
   have a1:key x≤key y:=by
    rcases cM.1 ((h.mem (x:=y)).1 (by simp)) with e|hm
    ·rw[e]; exact dR _
    ·exact h1.1 y hm
   have a2:key y≤key x:=by
    rcases cM.1 ((h.mem (x:=x)).2 (by simp)) with e|hm
    ·rw[e]; exact dR _
    ·exact h2.1 x hm
   omega
  have hx:x=y:=by
   have:=h (key x);have hky:(key y==key x)=true:=beq_iff_eq.2 hk.symm;have hkx:(key x==key x)=true:=beq_iff_eq.2 rfl;simp only[dS,hky,hkx,if_true] at this;exact(List.cons.inj this).1.symm
  subst hx;congr 1;refine Stb.uniq h1.2 h2.2 fun k=>?_;have:=h k
  by_cases hk:key x=k
  ·rw[List.filter_cons_of_pos (by simp[hk]),List.filter_cons_of_pos (by simp[hk])] at this;exact(List.cons.inj this).2
  ·rw[List.filter_cons_of_neg (by simp[hk]),List.filter_cons_of_neg (by simp[hk])] at this;exact this
variable (key)
def Z1 (x:α):List α→List α
 |[]=>[x]
 |y::l=>if key x≤key y then x::y::l else y::Z1 x l
def ĺ (l:List α):List α:=l.foldr (Z1 key) []
variable {key}
def Rf (x:α):∀l:List α,Stb key (x::l) (Z1 key x l)
 |[]=>Stb.refl _
 |y::l=>by
  unfold Z1
  split
  ·exact Stb.refl _
  ·rename_i h;refine Stb.trans (s:=y::x::l) ?_ fun k=>?_
   ·have:=Stb.swap (key:=key) (u:=[x]) (v:=[y]) (fun a ha b hb=>by simp at ha hb; subst ha hb; omega);exact(this.append (Stb.refl l))
   ·have:=Rf x l k;simp only[dS];rw[this];simp only[dS]
def aeM {x z:α} {l:List α}:z∈Z1 key x l↔z=x∨z∈l:=by
 rw[(Rf x l).mem,cM]
def Yu (x:α):∀{l:List α},Srt key l→Srt key (Z1 key x l)
 |[],_=>fu _ _
 |y::l,h=>by
  have h1:=List.pairwise_cons.1 h;unfold Z1
  split
  ·rename_i hx;refine List.Pairwise.cons (fun z hz=>?_) h;rcases cM.1 hz with rfl|hz
   ·exact hx
   ·exact Int.le_trans hx (h1.1 z hz)
  ·rename_i hx;refine List.Pairwise.cons (fun z hz=>?_) (Yu x h1.2);rcases aeM.1 hz with rfl|hz
   ·omega
   ·exact h1.1 z hz
def jI:∀l:List α,Srt key (ĺ key l)
 |[]=>List.Pairwise.nil
 |x::l=>Yu x (jI l)
def ŋ:∀l:List α,Stb key l (ĺ key l)
 |[]=>Stb.refl _
 |x::l=>by
  have:Stb key (x::l) (x::ĺ key l):=(Stb.refl [x]).append (ŋ l);exact this.trans (Rf x _)
def vh {l s:List α} (h:Srt key s) (h2:Stb key l s):ĺ key l=s:=Stb.uniq (jI l) h ((ŋ l).symm.trans h2)
def Stb.perm {l s:List α} [DecidableEq α] (h:Stb key l s):s.Perm l:=by
 rw[List.perm_iff_count];intro x
 have e:∀l:List α,l.count x=(l.filter fun y=>key y==key x).count x:=fun l=>by
  rw[List.count_filter];simp
 rw[e s,e l,h]
def Stb.length {l s:List α} (h:Stb key l s):s.length=l.length:=by
 classical
 exact h.perm.length_eq
def Srt.append {l s:List α} (h:Srt key l) (h2:Srt key s) (h3:∀x∈l,∀y∈s,key x≤key y):Srt key (l++s):=fM.2 ⟨h,h2,h3⟩
def Srt.parts {l s:List α} (h:Srt key (l++s)):Srt key l∧Srt key s∧∀x∈l,∀y∈s,key x≤key y:=fM.1 h
end
abbrev Way:=List (List Int)
abbrev ń:=Val Â
def đ (m:ń) (x:Way):Int:=(Ĵ m x).getD 0
def WOk (m:ń) (l:List Way):Prop:=∀x∈l,Ĵ m x=some (đ m x)
section
variable {ρ:Type} {m:ń}
def ac2 (a b:Int):gW a b=some (if a<b then -1 else if b<a then 1 else 0):=by
 unfold gW mh lm pA
 have e:∀x:Int,ine x x=false:=fun x=>by simp[ine]
 rw[e,e,À,À,é,é]
 by_cases h:a<b
 ·rw[Ù (decide_eq_true h),if_pos h]
 ·rw[Î (decide_eq_false h),if_neg h]
  by_cases h2:b<a
  ·rw[Ù (decide_eq_true h2),if_pos h2]
  ·rw[Î (decide_eq_false h2),if_neg h2]
def R0 {x y:Way} (hx:Ĵ m x=some (đ m x)) (hy:Ĵ m y=some (đ m y)):ji x y m=some (if đ m x<đ m y then -1 else if đ m y<đ m x then 1 else 0):=by
 unfold ji EQ;rw[hx,À,hy,À,ac2,À]
def Yp {x y:Way} (hx:Ĵ m x=some (đ m x)) (hy:Ĵ m y=some (đ m y)) (X Y:Option ρ):(Ã (ji x y m) fun r=>ifb (ilt r (0:Int)) X Y)=if đ m x<đ m y then X else Y:=by
 rw[R0 hx hy,À]
 by_cases h:đ m x<đ m y
 ·rw[if_pos h,if_pos h]; rfl
 ·rw[if_neg h,if_neg h]
  by_cases h2:đ m y<đ m x
  ·rw[if_pos h2]; rfl
  ·rw[if_neg h2]; rfl
def agO {α:Type} (A:List α) (x:α) (B:List α):(A++x::B)[A.length]?=some x:=by simp
def agm {α:Type} (A:List α) (x y:α) (B:List α):(A++x::B).set A.length y=A++y::B:=by simp
def iF {α:Type} {l A B:List α} {x:α} {i:Int} (h:l=A++x::B) (hi:i=A.length) (K:α→Option ρ):(ß ((ile (0:Int) i)&&(ilt i (ì l))) (ĸ l (Int.toNat i) K))=K x:=by
 subst h hi;rw[ð (by simp[ile,ilt,ì]; omega),cT,iJ (agO A x B)]
def Gn {α:Type} {l A B:List α} {x:α} {i:Int} (h:l=A++x::B) (hi:i=A.length) (y:α):List.set l (Int.toNat i) y=A++y::B:=by
 subst h hi;rw[cT,agm]
def ins_L1 {c0:Int} {A C:List Way} {x y:Way} (hx:Ĵ m x=some (đ m x)) (hy:Ĵ m y=some (đ m y)) (hc:c0≤A.length) (hl:A.length≤1000000) (kn:Int→List Way→Option ρ) (k0:List Way→Option ρ) :
 ç c0 m.1.1.1 m.1.1.2 m.1.2.1 m.1.2.2.1 m.1.2.2.2.1 m.1.2.2.2.2.1 m.1.2.2.2.2.2 m.2 ((A.length:Int)+1) (A++y::x::C) kn k0 =
  if đ m x<đ m y then kn A.length (A++x::y::C) else k0 (A++y::x::C):=by
 have e1:((A.length:Int)+1-1)=A.length:=by omega
 have s1:A++y::x::C=(A++[y])++x::C:=by simp
 have l1:((A.length:Int)+1)=(A++[y]).length:=by simp
 unfold ç;rw[Ù (decide_eq_true (by omega)),iF s1 l1,e1,Ô (by omega) (by omega),iF (A:=A) (x:=y) (B:=x::C) rfl rfl];refine(Yp hx hy _ _).trans ?_
 split
 ·rw[Ô (by omega) (by omega),Ô (by omega) (by omega),iF (A:=A) (x:=y) (B:=x::C) rfl rfl,iF s1 l1,iF s1 l1,Gn s1 l1]
  have s2:A++[y]++y::C=A++y::y::C:=by simp
  rw[s2,iF (A:=A) (x:=y) (B:=y::C) rfl rfl,Gn (A:=A) (x:=y) (B:=y::C) rfl rfl,Ô (by omega) (by omega)]
 ·rfl
def aeL {c0:Int} {P S Q:List Way} {x:Way} (hP:c0=P.length) (hS:Srt (đ m) S) (hW:WOk m (x::S)) (hl:P.length+S.length≤1000000) (K:List Way→Option ρ) :
 Ê (fun(v:Int×List Way) kk=>ç c0 m.1.1.1 m.1.1.2 m.1.2.1 m.1.2.2.1 m.1.2.2.2.1 m.1.2.2.2.2.1 m.1.2.2.2.2.2 m.2 v.1 v.2 (fun a b=>kk (a,b)) K) (((P.length+S.length:Nat):Int),P++(S++x::Q))=K (P++(ĺ (đ m) (S++[x])++Q)):=by
 subst hP;have hxW:=hW x (by simp)
 -- when it stops
 have stop:∀A B:List Way,S=A++B→(∀t∈B,đ m x<đ m t)→(∀t∈A,đ m t≤đ m x)→ĺ (đ m) (S++[x])=A++x::B:=fun A B hAB hB hA=>by
  subst hAB;obtain⟨h1,h2,h3⟩:=hS.parts;refine vh ?_ ?_
  ·refine h1.append (List.Pairwise.cons (fun t ht=>by have:=hB t ht; omega) h2) fun a ha b hb=>?_;rcases cM.1 hb with rfl|hb
   ·exact hA a ha
   ·exact h3 a ha b hb
  ·have:=Stb.swap (key:=đ m) (u:=B) (v:=[x]) (fun a ha b hb=>by simp at hb; subst hb; have:=hB a ha; omega);have h4:=(Stb.refl (key:=đ m) A).append this;rw[←cP] at h4;exact h4
 refine ĕ (fun v:Int×List Way=>∃A B:List Way,S=A++B∧(∀t∈B,đ m x<đ m t)∧v=(((P.length+A.length:Nat):Int),P++(A++x::(B++Q)))) (fun v=>v.1.toNat) ?_ ⟨S,[],by simp,by simp,by simp⟩;rintro v ⟨A,B,hAB,hB,rfl⟩
 cases hA:A.reverse with
 |nil =>
  have hA0:A=[]:=by simpa using hA
  subst hA0;refine .inl fun kn=>?_;dsimp only;unfold ç;rw[Î (decide_eq_false (by simp)),stop [] B hAB hB (by simp)];simp
 |cons y A' =>
  have hA0:A=A'.reverse++[y]:=by
   have:=congrArg List.reverse hA;simpa using this
  generalize A'.reverse=A1 at hA0;subst hA0;have hyW:Ĵ m y=some (đ m y):=hW y (by rw[hAB]; simp)
  have hstep:∀kn:Int×List Way→Option ρ,ç (P.length:Int) m.1.1.1 m.1.1.2 m.1.2.1 m.1.2.2.1 m.1.2.2.2.1 m.1.2.2.2.2.1 m.1.2.2.2.2.2 m.2 ((P.length+(A1++[y]).length:Nat):Int) (P++(A1++[y]++x::(B++Q))) (fun a b=>kn (a,b)) K =
   if đ m x<đ m y then kn (((P.length+A1.length:Nat):Int),P++(A1++x::(y::B++Q))) else K (P++(A1++[y]++x::(B++Q))):=fun kn=>by
   have e1:((P.length+(A1++[y]).length:Nat):Int)=((P++A1).length:Int)+1:=by simp; omega
   have e2:P++(A1++[y]++x::(B++Q))=(P++A1)++y::x::(B++Q):=by simp
   have hlen:A1.length≤S.length:=by rw[hAB]; simp
   rw[e1,e2,ins_L1 hxW hyW (by simp; omega) (by simp; omega)];simp
  by_cases hxy:đ m x<đ m y
  ·refine .inr ⟨(((P.length+A1.length:Nat):Int),P++(A1++x::(y::B++Q))),⟨A1,y::B,by rw[hAB]; simp,fun t ht=>?_,rfl⟩,by simp; omega,fun kn=>(hstep kn).trans (if_pos hxy)⟩;rcases cM.1 ht with rfl|ht
   ·exact hxy
   ·exact hB t ht
  ·refine .inl fun kn=>(hstep kn).trans ?_;rw[if_neg hxy,stop (A1++[y]) B hAB hB fun t ht=>?_]
   ·simp
   ·obtain⟨h1,_,_⟩:=Srt.parts (hAB▸hS);obtain⟨_,_,h3⟩:=Srt.parts h1;rcases cJ.1 ht with ht|ht
    ·have:=h3 t ht y (by simp); omega
    ·simp at ht; subst ht; omega
def WOk.sub {l s:List Way} (h:WOk m l) (hs:∀x∈s,x∈l):WOk m s:=fun x hx=>h x (hs x hx)
def GP {P M Q:List Way} (hW:WOk m M) (hl:P.length+M.length≤1000000):å (P++(M++Q)) P.length ((P.length+M.length:Nat):Int) m=some (P++(ĺ (đ m) M++Q),m):=by
 unfold å Ũ;rw[Ô (by omega) (by omega)];refine ĕ (fun v:Int×List Way=>(M.length=0∧v=((P.length:Int)+1,P++(M++Q)))∨∃k:Nat,1≤k∧k≤M.length∧v=(((P.length+k:Nat):Int),P++(ĺ (đ m) (M.take k)++(M.drop k++Q)))) (fun v=>(P.length+M.length+1)-v.1.toNat) ?_ ?_
 ·rintro v (⟨h0,rfl⟩|⟨k,hk1,hk2,rfl⟩)
  ·refine .inl fun kn=>?_;have:M=[]:=List.length_eq_zero_iff.1 h0;subst this;dsimp only;unfold ĉ;rw[Î (decide_eq_false (by simp; omega))];rfl
  ·rcases fW hk2 with h|rfl
   ·have hg:M[k]?=some M[k]:=cE h;have hd:M.drop k=M[k]::M.drop (k+1):=dB h;have ht:M.take (k+1)=M.take k++[M[k]]:=take_succ hg;have hmem:M[k]∈M:=fe h;generalize M[k]=x at hg hd ht hmem
    have hlk:(ĺ (đ m) (M.take k)).length=k:=by rw[(ŋ _).length]; simp; omega
    refine .inr ⟨(((P.length+(k+1):Nat):Int),P++(ĺ (đ m) (M.take (k+1))++(M.drop (k+1)++Q))),.inr ⟨k+1,by omega,h,rfl⟩,by dsimp only; omega,fun kn=>?_⟩;dsimp only;unfold ĉ;rw[Ù (decide_eq_true (by omega)),hd]
    have:=aeL (m:=m) (c0:=(P.length:Int)) (P:=P) (S:=ĺ (đ m) (M.take k)) (Q:=M.drop (k+1)++Q) (x:=x) rfl (jI _) (fun y hy=>by
     rcases cM.1 hy with rfl|hy
     ·exact hW _ hmem
     ·exact hW _ (fN ((ŋ _).mem.1 hy))) (by omega) (fun z13=>ck (((P.length+k:Nat):Int)+(1:Int)) fun n14=>kn (n14,z13))
    rw[hlk] at this;refine this.trans ?_;rw[Ô (by omega) (by omega)];congr 1;refine Prod.ext (by dsimp only; omega) ?_;dsimp only
    have e:ĺ (đ m) (ĺ (đ m) (M.take k)++[x])=ĺ (đ m) (M.take (k+1)):=by
     rw[ht];exact vh (jI _) (((ŋ (M.take k)).append (Stb.refl [x])).symm.trans (ŋ _))
    rw[e]
   ·refine .inl fun kn=>?_;dsimp only;unfold ĉ;rw[Î (decide_eq_false (by omega))];simp
 ·cases M with
  |nil=>exact .inl ⟨rfl,rfl⟩
  |cons a M =>
   refine .inr ⟨1,cF _,by simp,?_⟩;refine Prod.ext (by simp) ?_;simp[ĺ,Z1]
end
section
variable {ρ:Type} {m:ń}
def rot_L2:@ω ρ=@Ĉ ρ:=rfl
def rot_L3:@ψ ρ=@Ĉ ρ:=rfl
def tX {A U B V C:List Way} (hn:V.length=U.length) {a b n:Int} (ha:a=A.length) (hb:b=((A.length+U.length+B.length:Nat):Int)) (hnn:n=U.length) (hl:A.length+U.length+B.length+V.length≤1000000) (K:List Way→Option ρ) :
 Ê (fun(v:Int×List Way) kk=>Ĉ a b n v.1 v.2 (fun x y=>kk (x,y)) K) ((0:Int),A++(U++(B++(V++C))))=K (A++(V++(B++(U++C)))):=by
 subst ha hb hnn;refine ġ (List.replicate U.length ()) (fun i=>A++(V.take i++(U.drop i++(B++(U.take i++(V.drop i++C)))))) _ (by simp) (fun i x hi hx kn=>?_) (fun kn=>?_)
 ·try dsimp only
  rw[fh] at hi;have hu:U.drop i=U[i]::U.drop (i+1):=dB hi;have hv:V.drop i=V[i]::V.drop (i+1):=dB (by omega);have htu:U.take (i+1)=U.take i++[U[i]]:=take_succ (cE hi);have htv:V.take (i+1)=V.take i++[V[i]]:=take_succ (cE (by omega));generalize U[i]=u at hu htu;generalize V[i]=v at hv htv
  have lu:(U.take i).length=i:=by simp; omega
  have lv:(V.take i).length=i:=by simp; omega
  have ldu:(U.drop (i+1)).length=U.length-(i+1):=by simp
  rw[hu,hv,htu,htv];generalize U.drop (i+1)=U2 at *;generalize V.drop (i+1)=V2 at *;generalize U.take i=U1 at *;generalize V.take i=V1 at *;unfold Ĉ
  -- the places
  have s1:A++(V1++(u::U2++(B++(U1++(v::V2++C)))))=(A++V1)++u::(U2++(B++(U1++(v::V2++C)))):=by simp
  have s2:A++(V1++(u::U2++(B++(U1++(v::V2++C)))))=(A++(V1++(u::U2++(B++U1))))++v::(V2++C):=by simp
  have p1:(A.length:Int)+i=(A++V1).length:=by simp; omega
  have p2:((A.length+U.length+B.length:Nat):Int)+i=(A++(V1++(u::U2++(B++U1)))).length:=by simp; omega
  have s3:(A++V1)++v::(U2++(B++(U1++(v::V2++C))))=(A++(V1++(v::U2++(B++U1))))++v::(V2++C):=by simp
  have p3:((A.length+U.length+B.length:Nat):Int)+i=(A++(V1++(v::U2++(B++U1)))).length:=by simp; omega
  rw[Ù (decide_eq_true (by omega)),Ô (by omega) (by omega),Ô (by omega) (by omega),Ô (by omega) (by omega),iF s2 p2,Ô (by omega) (by omega),iF s1 p1,iF s1 p1,Gn s1 p1,iF s3 p3,Gn s3 p3,Ô (by omega) (by omega)];simp
 ·try dsimp only
  unfold Ĉ;rw[List.length_replicate,Î (decide_eq_false (by omega))];rw[List.take_of_length_le (l:=V) (by omega),List.drop_of_length_le (l:=U) (by omega),List.take_of_length_le (l:=U) (by omega),List.drop_of_length_le (l:=V) (by omega)];simp
def abi {A U V C:List Way} (hU:1≤U.length) (hV:1≤V.length) (hl:A.length+U.length+V.length≤1000000) :
 Ķ (A++(U++(V++C))) A.length ((A.length+U.length:Nat):Int) ((A.length+U.length+V.length:Nat):Int) m=some (A++(V++(U++C)),m):=by
 unfold Ķ iT;rw[Ô (by omega) (by omega),Ô (by omega) (by omega)];refine ĕ (fun v:Int×Int×List Way=>∃L X Y R:List Way,1≤X.length∧1≤Y.length∧L.length+X.length=U.length∧Y.length+R.length=V.length∧L++(Y++(X++R))=V++U∧v=((X.length:Int),(Y.length:Int),A++(L++(X++(Y++(R++C)))))) (fun v=>v.1.toNat+v.2.1.toNat) ?_ ⟨[],U,V,[],hU,hV,by simp,by simp,by simp,?_⟩
 rotate_left
 ·rw[Prod.mk.injEq,Prod.mk.injEq];refine⟨?_,?_,by simp⟩
  ·show((A.length+U.length:Nat):Int)-(A.length:Int)=(U.length:Int);omega
  ·show((A.length+U.length+V.length:Nat):Int)-((A.length+U.length:Nat):Int)=(V.length:Int);omega
 rintro v ⟨L,X,Y,R,hX,hY,h1,h2,h3,rfl⟩
 by_cases hxy:X.length=Y.length
 ·refine .inl fun kn=>?_;dsimp only;unfold į;rw[Î (by simp[ine,hxy])];dsimp only;rw[rot_L3,Ô (by omega) (by omega)];have:=tX (A:=A++L) (U:=X) (B:=[]) (V:=Y) (C:=R++C) hxy.symm (a:=((A.length+U.length:Nat):Int)-X.length) (b:=((A.length+U.length:Nat):Int)) (n:=X.length) (by simp; omega) (by simp; omega) rfl (by simp; omega) (fun z48=>some (z48,m))
  have e1:(A++L)++(X++([]++(Y++(R++C))))=A++(L++(X++(Y++(R++C)))):=by simp
  rw[e1] at this;refine this.trans ?_
  have e2:A++L++(Y++([]++(X++(R++C))))=A++((L++(Y++(X++R)))++C):=by simp
  rw[e2,h3];simp
 ·by_cases hgt:Y.length<X.length
  ·-- the first part of X and Y change places
   have l1:(X.take Y.length).length=Y.length:=by simp; omega
   have l2:(X.drop Y.length).length=X.length-Y.length:=by simp
   have ex:X=X.take Y.length++X.drop Y.length:=(dP _ _).symm;generalize X.take Y.length=X1 at l1 ex;generalize X.drop Y.length=X2 at l2 ex;subst ex;refine .inr ⟨((X2.length:Int),(X1.length:Int),A++((L++Y)++(X2++(X1++(R++C))))),⟨L++Y,X2,X1,R,by simp at l2 hgt; omega,by omega,by simp at h1 ⊢; omega,by omega,?_,rfl⟩,by simp at l2 ⊢; omega,fun kn=>?_⟩
   ·rw[←h3]; simp
   ·dsimp only;unfold į;have hg1:ine ((X1++X2).length:Int) (Y.length:Int)=true:=bne_iff_ne.2 (by omega);rw[Ù hg1,Ù (decide_eq_true (by omega)),Ô (by simp at h1 ⊢; omega) (by simp at h1 ⊢; omega)];have:=tX (A:=A++L) (U:=X1) (B:=X2) (V:=Y) (C:=R++C) l1.symm (a:=((A.length+U.length:Nat):Int)-(X1++X2).length) (b:=((A.length+U.length:Nat):Int)) (n:=Y.length) (by simp at h1 ⊢; omega) (by simp at h1 ⊢; omega) (by omega) (by simp at h1 ⊢; omega) (fun z13=>ck (((X1++X2).length:Int)-(Y.length:Int)) fun n14=>kn (n14,((Y.length:Int),z13)))
    have e1:(A++L)++(X1++(X2++(Y++(R++C))))=A++(L++(X1++X2++(Y++(R++C)))):=by simp
    rw[e1] at this;refine this.trans ?_;rw[Ô (by simp; omega) (by simp; omega)];congr 1;rw[Prod.mk.injEq,Prod.mk.injEq];exact⟨by simp; omega,by omega,by simp⟩
  ·have l1:(Y.drop (Y.length-X.length)).length=X.length:=by simp; omega
   have l2:(Y.take (Y.length-X.length)).length=Y.length-X.length:=by simp
   have ey:Y=Y.take (Y.length-X.length)++Y.drop (Y.length-X.length):=(dP _ _).symm;generalize Y.take (Y.length-X.length)=Y1 at l2 ey;generalize Y.drop (Y.length-X.length)=Y2 at l1 ey;subst ey;refine .inr ⟨((Y2.length:Int),(Y1.length:Int),A++(L++(Y2++(Y1++((X++R)++C))))),⟨L,Y2,Y1,X++R,by omega,by simp at l2 hxy hgt; omega,by omega,by simp at h2 ⊢; omega,?_,rfl⟩,by simp at l2 ⊢; omega,fun kn=>?_⟩
   ·rw[←h3]; simp
   ·dsimp only;unfold į;have hg1:ine (X.length:Int) ((Y1++Y2).length:Int)=true:=bne_iff_ne.2 (by omega);rw[Ù hg1,Î (decide_eq_false (by omega)),rot_L2,Ô (by omega) (by omega),Ô (by simp at h2 ⊢; omega) (by simp at h2 ⊢; omega),Ô (by simp at h2 ⊢; omega) (by simp at h2 ⊢; omega)];have:=tX (A:=A++L) (U:=X) (B:=Y1) (V:=Y2) (C:=R++C) l1 (a:=((A.length+U.length:Nat):Int)-X.length) (b:=((A.length+U.length:Nat):Int)+((Y1++Y2).length:Int)-X.length) (n:=X.length) (by simp; omega) (by simp; omega) rfl (by simp at h2 ⊢; omega) (fun z31=>ck (((Y1++Y2).length:Int)-(X.length:Int)) fun n32=>kn ((X.length:Int),(n32,z31)))
    have e1:(A++L)++(X++(Y1++(Y2++(R++C))))=A++(L++(X++(Y1++Y2++(R++C)))):=by simp
    rw[e1] at this;refine this.trans ?_;rw[Ô (by simp; omega) (by simp; omega)];congr 1;rw[Prod.mk.injEq,Prod.mk.injEq];exact⟨by omega,by simp; omega,by simp⟩
end
def agN {n:Nat} (h:n≤10000000):IntKind.wrap .i64 (hZ .u64 (IntKind.wrap .u64 (n:Int)) (1:Int))=((n / 2:Nat):Int):=by
 have e1:IntKind.wrap .u64 (n:Int)=n:=by
  simp[IntKind.wrap,IntKind.bits,IntKind.signed];omega
 rw[e1]
 have e2:hZ .u64 (n:Int) 1=((n / 2:Nat):Int):=by
  unfold hZ
  have:(2:Int) ^ (min (Int.toNat 1) IntKind.u64.bits)=2:=by decide
  rw[this,Int.fdiv_eq_ediv_of_nonneg _ (by omega)];omega
 rw[e2];simp[IntKind.wrap,IntKind.bits,IntKind.signed];omega
section
variable {ρ:Type} {m:ń}
abbrev adK:=List Way→Int→Int→Int→ń→Option (List Way×ń)
def YX (p:Nat→Prop) [DecidablePred p] {lo:Nat}:∀(n:Nat),(∀c c',lo≤c→c≤c'→c'<lo+n→p c'→p c)→∃s,lo≤s∧s≤lo+n∧(∀c,lo≤c→c<s→p c)∧∀c,s≤c→c<lo+n→¬p c
 |0,_=>⟨lo,cF _,cF _,fun c h1 h2=>by omega,fun c h1 h2=>by omega⟩
 |n+1,hm=>by
  obtain⟨s,h1,h2,h3,h4⟩:=YX p (lo:=lo) n fun c c' a1 a2 a3=>hm c c' a1 a2 (by omega)
  by_cases hp:p (lo+n)
  ·exact⟨lo+n+1,by omega,by omega,fun c q1 q2=>hm c (lo+n) q1 (by omega) (by omega) hp,fun c q1 q2=>by omega⟩
  ·refine⟨s,h1,by omega,h3,fun c q1 q2=>?_⟩
   by_cases e:c=lo+n
   ·rw[e]; exact hp
   ·exact h4 c q1 (by omega)
def Xp {f:Int×Int→(Int×Int→Option ρ)→Option ρ} {K:Int→Option ρ} {lo hi:Nat} (hlh:lo≤hi) (p:Nat→Prop) [DecidablePred p] (mono:∀c c',lo≤c→c≤c'→c'<hi→p c'→p c)
 (step:∀i j:Nat,lo≤i→i<j→j≤hi→∀kn,f ((i:Int),(j:Int)) kn=if p ((i+j) / 2) then kn ((((i+j) / 2+1:Nat):Int),(j:Int)) else kn ((i:Int),(((i+j) / 2:Nat):Int)))
 (stop:∀i:Nat,lo≤i→i≤hi→∀kn,f ((i:Int),(i:Int)) kn=K i) :
 ∃s,lo≤s∧s≤hi∧(∀c,lo≤c→c<s→p c)∧(∀c,s≤c→c<hi→¬p c)∧Ê f ((lo:Int),(hi:Int))=K (s:Nat):=by
 obtain⟨s,h1,h2,h3,h4⟩:=YX p (lo:=lo) (hi-lo) fun c c' a1 a2 a3=>mono c c' a1 a2 (by omega);refine⟨s,h1,by omega,h3,fun c q1 q2=>h4 c q1 (by omega),?_⟩;refine ĕ (fun v:Int×Int=>∃i j:Nat,lo≤i∧i≤s∧s≤j∧j≤hi∧v=((i:Int),(j:Int))) (fun v=>v.2.toNat-v.1.toNat) ?_ ⟨lo,hi,cF _,h1,by omega,cF _,rfl⟩;rintro v ⟨i,j,q1,q2,q3,q4,rfl⟩;rcases cZ i j with h|h
 ·by_cases hp:p ((i+j) / 2)
  ·refine .inr ⟨_,⟨(i+j) / 2+1,j,by omega,?_,q3,q4,rfl⟩,by dsimp only; omega,fun kn=>by rw[step i j q1 h q4,if_pos hp]⟩;rcases Nat.lt_or_ge ((i+j) / 2) s with h5|h5
   ·omega
   ·exact absurd hp (h4 _ h5 (by omega))
  ·refine .inr ⟨_,⟨i,(i+j) / 2,q1,q2,?_,by omega,rfl⟩,by dsimp only; omega,fun kn=>by rw[step i j q1 h q4,if_neg hp]⟩;rcases Nat.lt_or_ge ((i+j) / 2) s with h5|h5
   ·exact absurd (h3 _ (by omega) h5) hp
   ·exact h5
 ·obtain rfl:i=j:=by omega
  obtain rfl:i=s:=by omega
  exact .inl fun kn=>stop i q1 q4 kn
def ZI (rec:adK) {P B C:List Way} {x:Way} {c0:Int} (hc:c0=((P.length+B.length+1:Nat):Int)) (hl:P.length+B.length≤1000000) (K:List Way→Option ρ) :
 Ê (fun(v:Int×List Way) kk=>î rec c0 v.1 v.2 (fun a b=>kk (a,b)) K) ((P.length:Int),P++(x::(B++C)))=K (P++(B++x::C)):=by
 subst hc;refine ĕ (fun v:Int×List Way=>∃B1 B2:List Way,B=B1++B2∧v=(((P.length+B1.length:Nat):Int),P++(B1++x::(B2++C)))) (fun v=>(P.length+B.length+1)-v.1.toNat) ?_ ⟨[],B,rfl,rfl⟩;rintro v ⟨B1,B2,hB,rfl⟩
 cases B2 with
 |nil =>
  refine .inl fun kn=>?_;rw[List.append_nil] at hB;subst hB;dsimp only;unfold î;rw[Ô (by omega) (by omega),Î (decide_eq_false (by omega))];rfl
 |cons y B2 =>
  have hlen:B.length=B1.length+B2.length+1:=by rw[hB]; simp; omega
  refine .inr ⟨(((P.length+(B1++[y]).length:Nat):Int),P++((B1++[y])++x::(B2++C))),⟨B1++[y],B2,by rw[hB]; simp,rfl⟩,by simp; omega,fun kn=>?_⟩;dsimp only;unfold î
  have s1:P++(B1++x::(y::B2++C))=(P++B1)++x::(y::(B2++C)):=by simp
  have p1:((P.length+B1.length:Nat):Int)=(P++B1).length:=by simp
  have s2:P++(B1++x::(y::B2++C))=(P++B1++[x])++y::(B2++C):=by simp
  have p2:((P.length+B1.length:Nat):Int)+1=(P++B1++[x]).length:=by simp; omega
  have s3:(P++B1)++y::(y::(B2++C))=(P++B1++[y])++y::(B2++C):=by simp
  have p3:((P.length+B1.length:Nat):Int)+1=(P++B1++[y]).length:=by simp; omega
  rw[Ô (by omega) (by omega),Ù (decide_eq_true (by omega)),Ô (by omega) (by omega),Ô (by omega) (by omega),iF s2 p2,iF s1 p1,iF s1 p1,Gn s1 p1,iF s3 p3,Gn s3 p3,Ô (by omega) (by omega)];congr 1
  ·simp; omega
  ·simp
def abP (rec:adK) {P B C:List Way} {x:Way} {c0:Int} (hc:c0=(P.length:Int)) (hl:P.length+B.length≤1000000) (K:List Way→Option ρ) :
 Ê (fun(v:Int×List Way) kk=>í rec c0 v.1 v.2 (fun a b=>kk (a,b)) K) (((P.length+B.length:Nat):Int),P++(B++x::C))=K (P++(x::(B++C))):=by
 subst hc;refine ĕ (fun v:Int×List Way=>∃B1 B2:List Way,B=B1++B2∧v=(((P.length+B1.length:Nat):Int),P++(B1++x::(B2++C)))) (fun v=>v.1.toNat) ?_ ⟨B,[],by simp,by simp⟩;rintro v ⟨B1,B2,hB,rfl⟩
 cases hB1:B1.reverse with
 |nil =>
  have:B1=[]:=by simpa using hB1
  subst this;refine .inl fun kn=>?_;dsimp only;unfold í;rw[Î (decide_eq_false (by simp)),hB];simp
 |cons y B3 =>
  have hA0:B1=B3.reverse++[y]:=by
   have:=congrArg List.reverse hB1;simpa using this
  generalize B3.reverse=A1 at hA0;subst hA0
  have hlen:B.length=A1.length+1+B2.length:=by rw[hB]; simp; omega
  refine .inr ⟨(((P.length+A1.length:Nat):Int),P++(A1++x::(y::B2++C))),⟨A1,y::B2,by rw[hB]; simp,rfl⟩,by simp; omega,fun kn=>?_⟩;dsimp only;unfold í
  have e0:((P.length+(A1++[y]).length:Nat):Int)-1=((P.length+A1.length:Nat):Int):=by simp; omega
  have s1:P++(A1++[y]++x::(B2++C))=(P++A1)++y::(x::(B2++C)):=by simp
  have p1:((P.length+A1.length:Nat):Int)=(P++A1).length:=by simp
  have s2:P++(A1++[y]++x::(B2++C))=(P++A1++[y])++x::(B2++C):=by simp
  have p2:((P.length+(A1++[y]).length:Nat):Int)=(P++A1++[y]).length:=by simp
  have s3:(P++A1++[y])++y::(B2++C)=(P++A1)++y::(y::(B2++C)):=by simp
  rw[Ù (decide_eq_true (by simp; omega)),e0,Ô (by omega) (by omega),Ô (by omega) (by omega),iF s1 p1,iF s2 p2,iF s2 p2,Gn s2 p2,iF s3 p1,Gn s3 p1,Ô (by omega) (by omega)];congr 1;simp
end
section
variable {ρ:Type} {m:ń}
def symS (rec:adK) (mid e b:Int) (k:List Way×ń→Option ρ) (l:List Way) (mm:ń):Option ρ :=
 ifb (ilt mid e) (ifb (ilt e b) (Ã (rec l mid e b mm) fun r=>k (r.1,r.2)) (k (l,mm))) (k (l,mm))
def symR (rec:adK) (a z mid e b:Int) (k:List Way×ń→Option ρ) (l:List Way) (mm:ń):Option ρ :=
 ifb (ilt a z) (ifb (ilt z mid) (Ã (rec l a z mid mm) fun r=>symS rec mid e b k r.1 r.2) (symS rec mid e b k l mm)) (symS rec mid e b k l mm)
def agi (rec:adK) (l:List Way) (a c b mid n:Int) (mm:ń) (k:List Way×ń→Option ρ) (z:Int):Option ρ :=
 ck (n-z) fun e=>ifb (ilt z c) (ifb (ilt c e) (Ã (Ķ l z c e mm) fun r=>symR rec a z mid e b k r.1 r.2) (symR rec a z mid e b k l mm)) (symR rec a z mid e b k l mm)
def Z3 (n:Int):Int:=IntKind.wrap .i64 (hZ .u64 (IntKind.wrap .u64 n) (1:Int))
def sym_eq (rec:adK) (l:List Way) (a c b:Int) (mm:ń) (k:List Way×ń→Option ρ):Ġ rec l a c b mm k =
 ck (c-a) fun n1=>ifb (ieq n1 (1:Int)) (Ê (fun(v:Int×Int) kk=>ù rec a l mm.1.1.1 mm.1.1.2 mm.1.2.1 mm.1.2.2.1 mm.1.2.2.2.1 mm.1.2.2.2.2.1 mm.1.2.2.2.2.2 mm.2 v.1 v.2 (fun x y=>kk (x,y)) (fun z7=>Ê (fun(v:Int×List Way) kk=>î rec z7 v.1 v.2 (fun x y=>kk (x,y)) (fun z16=>k (z16,mm))) (a,l))) (c,b))
  (ck (b-c) fun n25=>ifb (ieq n25 (1:Int)) (Ê (fun(v:Int×Int) kk=>ø rec c l mm.1.1.1 mm.1.1.2 mm.1.2.1 mm.1.2.2.1 mm.1.2.2.2.1 mm.1.2.2.2.2.1 mm.1.2.2.2.2.2 mm.2 v.1 v.2 (fun x y=>kk (x,y)) (fun z31=>Ê (fun(v:Int×List Way) kk=>í rec z31 v.1 v.2 (fun x y=>kk (x,y)) (fun z39=>k (z39,mm))) (c,l))) (a,c))
   (ck (a+b) fun n48=>ck (Z3 n48+c) fun n49=>ifb (igt c (Z3 n48))
    (ck (n49-b) fun n50=>ck (n49-(1:Int)) fun n51=>Ê (fun(v:Int×Int) kk=>Þ rec n51 l mm.1.1.1 mm.1.1.2 mm.1.2.1 mm.1.2.2.1 mm.1.2.2.2.1 mm.1.2.2.2.2.1 mm.1.2.2.2.2.2 mm.2 v.1 v.2 (fun x y=>kk (x,y)) (agi rec l a c b (Z3 n48) n49 mm k)) (n50,Z3 n48))
    (ck (n49-(1:Int)) fun n77=>Ê (fun(v:Int×Int) kk=>Þ rec n77 l mm.1.1.1 mm.1.1.2 mm.1.2.1 mm.1.2.2.1 mm.1.2.2.2.1 mm.1.2.2.2.2.1 mm.1.2.2.2.2.2 mm.2 v.1 v.2 (fun x y=>kk (x,y)) (agi rec l a c b (Z3 n48) n49 mm k)) (a,c)))):=rfl
def RecOk (rec:adK) (m:ń) (N:Nat):Prop:=∀P U V Q:List Way,1≤U.length→1≤V.length→U.length+V.length≤N→Srt (đ m) U→Srt (đ m) V→WOk m (U++V)→P.length+U.length+V.length≤1000000 →
 rec (P++(U++(V++Q))) P.length ((P.length+U.length:Nat):Int) ((P.length+U.length+V.length:Nat):Int) m=some (P++(ĺ (đ m) (U++V)++Q),m)
def ri {l:List Way} (h:Srt (đ m) l):ĺ (đ m) l=l:=vh h (Stb.refl l)
def pG (l:List Way):(ĺ (đ m) l).length=l.length:=(ŋ l).length
def ad3 {rec:adK} {N:Nat} (hrec:RecOk rec m N) {P u1 u2 v1 v2 Q:List Way} (s1:u1.length+v1.length≤N) (s2:u2.length+v2.length≤N) (hU:Srt (đ m) (u1++u2)) (hV:Srt (đ m) (v1++v2))
 (F1:∀x∈u2,∀y∈v1,đ m y<đ m x) (F2:∀x∈u1,∀y∈v2,đ m x≤đ m y) (hW:WOk m ((u1++u2)++(v1++v2))) (hl:P.length+u1.length+u2.length+v1.length+v2.length≤1000000)
 {a c b mid n z:Int} (ea:a=P.length) (ec:c=((P.length+u1.length+u2.length:Nat):Int)) (eb:b=((P.length+u1.length+u2.length+v1.length+v2.length:Nat):Int)) (emid:mid=((P.length+u1.length+v1.length:Nat):Int)) (ez:z=((P.length+u1.length:Nat):Int)) (en:n-z=((P.length+u1.length+u2.length+v1.length:Nat):Int)) :
 agi rec (P++((u1++u2)++((v1++v2)++Q))) a c b mid n m some z=some (P++(ĺ (đ m) ((u1++u2)++(v1++v2))++Q),m):=by
 obtain⟨hU1,hU2,hU3⟩:=hU.parts;obtain⟨hV1,hV2,hV3⟩:=hV.parts;subst ea ec eb emid ez
 have fin:ĺ (đ m) ((u1++u2)++(v1++v2))=ĺ (đ m) (u1++v1)++ĺ (đ m) (u2++v2):=by
  refine vh ?_ ?_
  ·refine(jI _).append (jI _) fun x hx y hy=>?_;have hx:=(ŋ _).mem.1 hx;have hy:=(ŋ _).mem.1 hy
   rcases cJ.1 hx with hx|hx<;>rcases cJ.1 hy with hy|hy
   ·exact hU3 x hx y hy
   ·exact F2 x hx y hy
   ·have:=F1 y hy x hx; omega
   ·exact hV3 x hx y hy
  ·have q:Stb (đ m) (u2++v1) (v1++u2):=Stb.swap fun x hx y hy=>by have:=F1 x hx y hy; omega
   have q2:=((Stb.refl (key:=đ m) u1).append (q.append (Stb.refl v2)))
   have e1:u1++(u2++v1++v2)=u1++u2++(v1++v2):=by simp
   have e2:u1++(v1++u2++v2)=(u1++v1)++(u2++v2):=by simp
   rw[e1,e2] at q2;exact q2.trans ((ŋ _).append (ŋ _))
 have lI:(ĺ (đ m) (u1++v1)).length=u1.length+v1.length:=by rw[pG]; simp
 have hS:symS rec ((P.length+u1.length+v1.length:Nat):Int) ((P.length+u1.length+u2.length+v1.length:Nat):Int) ((P.length+u1.length+u2.length+v1.length+v2.length:Nat):Int) some (P++(ĺ (đ m) (u1++v1)++(u2++(v2++Q)))) m=some (P++(ĺ (đ m) ((u1++u2)++(v1++v2))++Q),m):=by
  rw[fin];unfold symS
  by_cases h1:u2=[]
  ·subst h1;rw[Î (decide_eq_false (by simp))];simp only[dI,cP];rw[ri hV2]
  by_cases h2:v2=[]
  ·subst h2;have q:ilt ((P.length+u1.length+u2.length+v1.length:Nat):Int) ((P.length+u1.length+u2.length+v1.length+([]:List Way).length:Nat):Int)=false:=decide_eq_false (by simp);rw[q,é];simp only[dI,df,cP];rw[ri hU2]
   cases ilt ((P.length+u1.length+v1.length:Nat):Int) ((P.length+u1.length+u2.length+v1.length:Nat):Int)<;>rfl
  have k1:1≤u2.length:=dY.2 h1;have k2:1≤v2.length:=dY.2 h2
  have:=hrec (P++ĺ (đ m) (u1++v1)) u2 v2 Q k1 k2 s2 hU2 hV2 (hW.sub fun x hx=>by
   rcases cJ.1 hx with hx|hx<;>simp[hx]) (by rw[cI,lI]; omega)
  rw[Ù (decide_eq_true (by omega)),Ù (decide_eq_true (by omega))]
  have e1:P++(ĺ (đ m) (u1++v1)++(u2++(v2++Q)))=(P++ĺ (đ m) (u1++v1))++(u2++(v2++Q)):=by simp
  rw[e1,show((P.length+u1.length+v1.length:Nat):Int)=((P++ĺ (đ m) (u1++v1)).length:Int) by rw[cI,lI]; omega,
   show((P.length+u1.length+u2.length+v1.length:Nat):Int)=(((P++ĺ (đ m) (u1++v1)).length+u2.length:Nat):Int) by rw[cI,lI]; omega,
   show((P.length+u1.length+u2.length+v1.length+v2.length:Nat):Int)=(((P++ĺ (đ m) (u1++v1)).length+u2.length+v2.length:Nat):Int) by rw[cI,lI]; omega,this,À]
  simp
 have hR:symR rec (P.length:Int) ((P.length+u1.length:Nat):Int) ((P.length+u1.length+v1.length:Nat):Int) ((P.length+u1.length+u2.length+v1.length:Nat):Int) ((P.length+u1.length+u2.length+v1.length+v2.length:Nat):Int) some (P++(u1++(v1++(u2++(v2++Q))))) m=some (P++(ĺ (đ m) ((u1++u2)++(v1++v2))++Q),m):=by
  unfold symR
  by_cases h1:u1=[]
  ·have q:ilt (P.length:Int) ((P.length+u1.length:Nat):Int)=false:=decide_eq_false (by rw[h1]; simp)
   have e:P++(ĺ (đ m) (u1++v1)++(u2++(v2++Q)))=P++(u1++(v1++(u2++(v2++Q)))):=by
    subst h1;simp only[dI];rw[ri hV1]
   rw[e] at hS;rw[q,é,hS]
  by_cases h2:v1=[]
  ·have e:P++(ĺ (đ m) (u1++v1)++(u2++(v2++Q)))=P++(u1++(v1++(u2++(v2++Q)))):=by
    subst h2;simp only[df,dI];rw[ri hU1]
   rw[e] at hS;have q:ilt ((P.length+u1.length:Nat):Int) ((P.length+u1.length+v1.length:Nat):Int)=false:=decide_eq_false (by rw[h2]; simp);rw[q,é,hS]
   cases ilt (P.length:Int) ((P.length+u1.length:Nat):Int)<;>rfl
  have k1:1≤u1.length:=dY.2 h1;have k2:1≤v1.length:=dY.2 h2;rw[Ù (decide_eq_true (by omega)),Ù (decide_eq_true (by omega))]
  rw[hrec P u1 v1 (u2++(v2++Q)) k1 k2 s1 hU1 hV1 (hW.sub fun x hx=>by
   rcases cJ.1 hx with hx|hx<;>simp[hx]) (by omega),À]
  exact hS
 unfold agi;rw[en,Ô (by omega) (by omega)]
 by_cases h1:u2=[]
 ·have q:ilt ((P.length+u1.length:Nat):Int) ((P.length+u1.length+u2.length:Nat):Int)=false:=decide_eq_false (by rw[h1]; simp)
  have e:P++((u1++u2)++((v1++v2)++Q))=P++(u1++(v1++(u2++(v2++Q)))):=by rw[h1]; simp
  rw[q,é,e,hR]
 by_cases h2:v1=[]
 ·have e:P++((u1++u2)++((v1++v2)++Q))=P++(u1++(v1++(u2++(v2++Q)))):=by rw[h2]; simp
  have q:ilt ((P.length+u1.length+u2.length:Nat):Int) ((P.length+u1.length+u2.length+v1.length:Nat):Int)=false:=decide_eq_false (by rw[h2]; simp);rw[q,é,e,hR]
  cases ilt ((P.length+u1.length:Nat):Int) ((P.length+u1.length+u2.length:Nat):Int)<;>rfl
 have k1:1≤u2.length:=dY.2 h1;have k2:1≤v1.length:=dY.2 h2;rw[Ù (decide_eq_true (by omega)),Ù (decide_eq_true (by omega))];have:=abi (m:=m) (A:=P++u1) (U:=u2) (V:=v1) (C:=v2++Q) k1 k2 (by simp; omega);rw[cI] at this
 have e1:P++((u1++u2)++((v1++v2)++Q))=(P++u1)++(u2++(v1++(v2++Q))):=by simp
 rw[e1,this,À]
 have e2:(P++u1)++(v1++(u2++(v2++Q)))=P++(u1++(v1++(u2++(v2++Q)))):=by simp
 rw[e2];exact hR
end
section
variable {ρ:Type} {m:ń}
def giW (l:List Way) (i:Nat):Way:=(l[i]?).getD []
def EK {l:List Way} {i:Nat} (h:i<l.length) (K:Way→Option ρ):(ß ((ile (0:Int) (i:Int))&&(ilt (i:Int) (ì l))) (ĸ l (Int.toNat (i:Int)) K))=K (giW l i):=by
 rw[ð (by simp[ile,ilt,ì]; omega),cT,iJ (cE h)];simp[giW,cE h]
def Ij {i j:Nat} (h:i+j≤10000000):IntKind.wrap .i64 (hZ .u64 (IntKind.wrap .u64 ((i:Int)+(j:Int))) (1:Int))=(((i+j) / 2:Nat):Int):=by
 rw[←agN h]; push_cast; rfl
def KOk (m:ń) (x:Way):Prop:=Ĵ m x=some (đ m x)
def Td {x y:Way} (hx:KOk m x) (hy:KOk m y) (X Y:Option ρ):(Ã (ji x y m) fun r=>ifb (!(ilt r (0:Int))) X Y)=if đ m x≥đ m y then X else Y:=by
 rw[R0 hx hy,À]
 by_cases h:đ m x<đ m y
 ·rw[if_pos h,if_neg (show ¬đ m x≥đ m y by omega)]; rfl
 ·rw[if_neg h,if_pos (show đ m x≥đ m y by omega)]
  by_cases h2:đ m y<đ m x
  ·rw[if_pos h2]; rfl
  ·rw[if_neg h2]; rfl
def agp (rec:adK) {l:List Way} {a i j:Nat} (hij:i<j) (hj:j≤l.length) (ha:a<l.length) (hl:j≤2000000) (wa:KOk m (giW l a)) (wh:KOk m (giW l ((i+j) / 2))) (kn:Int→Int→Option ρ) (k0:Int→Option ρ) :
 ù rec (a:Int) l m.1.1.1 m.1.1.2 m.1.2.1 m.1.2.2.1 m.1.2.2.2.1 m.1.2.2.2.2.1 m.1.2.2.2.2.2 m.2 (i:Int) (j:Int) kn k0=if đ m (giW l ((i+j) / 2))<đ m (giW l a) then kn (((i+j) / 2+1:Nat):Int) j else kn i (((i+j) / 2:Nat):Int):=by
 unfold ù;rw[Ù (decide_eq_true (by omega)),Ô (by omega) (by omega),Ij (by omega),EK (by omega),EK ha];refine(Yp wh wa _ _).trans ?_;rw[Ô (by omega) (by omega)];rfl
def ago (rec:adK) {l:List Way} {c i j:Nat} (hij:i<j) (hj:j≤l.length) (hc:c<l.length) (hl:j≤2000000) (wc:KOk m (giW l c)) (wh:KOk m (giW l ((i+j) / 2))) (kn:Int→Int→Option ρ) (k0:Int→Option ρ) :
 ø rec (c:Int) l m.1.1.1 m.1.1.2 m.1.2.1 m.1.2.2.1 m.1.2.2.2.1 m.1.2.2.2.2.1 m.1.2.2.2.2.2 m.2 (i:Int) (j:Int) kn k0=if đ m (giW l c)≥đ m (giW l ((i+j) / 2)) then kn (((i+j) / 2+1:Nat):Int) j else kn i (((i+j) / 2:Nat):Int):=by
 unfold ø;rw[Ù (decide_eq_true (by omega)),Ô (by omega) (by omega),Ij (by omega),EK hc,EK (by omega)];refine(Td wc wh _ _).trans ?_;rw[Ô (by omega) (by omega)];rfl
def agn (rec:adK) {l:List Way} {p i j:Nat} (hij:i<j) (hj:j≤l.length) (hp:(i+j) / 2≤p) (hp2:p-(i+j) / 2<l.length) (hl:j≤2000000) (hpb:p≤4000000) (wc:KOk m (giW l (p-(i+j) / 2))) (wh:KOk m (giW l ((i+j) / 2))) (kn:Int→Int→Option ρ) (k0:Int→Option ρ) :
 Þ rec (p:Int) l m.1.1.1 m.1.1.2 m.1.2.1 m.1.2.2.1 m.1.2.2.2.1 m.1.2.2.2.2.1 m.1.2.2.2.2.2 m.2 (i:Int) (j:Int) kn k0=if đ m (giW l (p-(i+j) / 2))≥đ m (giW l ((i+j) / 2)) then kn (((i+j) / 2+1:Nat):Int) j else kn i (((i+j) / 2:Nat):Int):=by
 unfold Þ;rw[Ù (decide_eq_true (by omega)),Ô (by omega) (by omega),Ij (by omega),show(p:Int)-(((i+j) / 2:Nat):Int)=((p-(i+j) / 2:Nat):Int) by omega,Ô (by omega) (by omega),EK hp2,EK (by omega)];refine(Td wc wh _ _).trans ?_;rw[Ô (by omega) (by omega)];rfl
def qn {α:Type} {l:List α} {n:Nat} {y:α} (h:y∈l.take n):∃j,j<n∧j<l.length∧l[j]?=some y:=by
 obtain⟨j,hj,e⟩:=cR.1 h;simp only[cY] at hj;refine⟨j,by omega,by omega,?_⟩;rw[eQ] at e;rw[cE (by omega),e]
def qo {α:Type} {l:List α} {n:Nat} {y:α} (h:y∈l.drop n):∃j,n≤j∧j<l.length∧l[j]?=some y:=by
 obtain⟨j,hj,e⟩:=cR.1 h;simp only[gg] at hj;refine⟨n+j,by omega,by omega,?_⟩;rw[List.getElem_drop] at e;rw[cE (by omega),e]
def aa7 {l:List Way} (h:Srt (đ m) l) {i j:Nat} {x y:Way} (hi:l[i]?=some x) (hj:l[j]?=some y) (hij:i≤j):đ m x≤đ m y:=by
 obtain⟨h1,rfl⟩:=cH.1 hi;obtain⟨h2,rfl⟩:=cH.1 hj;rcases fW hij with hlt|rfl
 ·exact dm.1 h i j h1 h2 hlt
 ·exact dR _
def Gi:∀(f N:Nat),N≤2 ^ f→RecOk (ğ (f+1)) m N
 |0,N,hN=>fun P U V Q hU hV hn=>by simp at hN; omega
 |f+1,N,hN=>fun P U V Q hU hV hn sU sV hW hl=>by
  have hrec:=Gi f (2 ^ f) (cF _)
  have hpow:2 ^ (f+1)=2*2 ^ f:=by rw[gR]; omega
  show Ġ (ğ (f+1)) _ _ _ _ m some=_;generalize ğ (f+1)=rec at hrec;obtain⟨l,hle⟩:∃l,l=P++(U++(V++Q)):=⟨_,rfl⟩
  have hll:P.length+U.length+V.length≤l.length:=by rw[hle]; simp; omega
  rw[sym_eq]
  -- what lies where
  have gU:∀i x,U[i]?=some x→giW l (P.length+i)=x:=fun i x hx=>by
   have hi:=(List.getElem?_eq_some_iff.1 hx).1;unfold giW;rw[hle,List.getElem?_append_right (by omega),List.getElem?_append_left (by omega),show P.length+i-P.length=i by omega,hx];rfl
  have gV:∀i x,V[i]?=some x→giW l (P.length+U.length+i)=x:=fun i x hx=>by
   have hi:=(List.getElem?_eq_some_iff.1 hx).1;unfold giW;rw[hle,List.getElem?_append_right (by omega),List.getElem?_append_right (by omega),List.getElem?_append_left (by omega),show P.length+U.length+i-P.length-U.length=i by omega,hx];rfl
  have kU:∀c c',P.length≤c→c≤c'→c'<P.length+U.length→đ m (giW l c)≤đ m (giW l c'):=fun c c' h1 h2 h3=>by
   have q1:U[c-P.length]?=some U[c-P.length]:=cE (by omega);have q2:U[c'-P.length]?=some U[c'-P.length]:=cE (by omega);have e1:=gU _ _ q1;have e2:=gU _ _ q2;rw[show P.length+(c-P.length)=c by omega] at e1;rw[show P.length+(c'-P.length)=c' by omega] at e2;rw[e1,e2];exact aa7 sU q1 q2 (by omega)
  have kV:∀c c',P.length+U.length≤c→c≤c'→c'<P.length+U.length+V.length→đ m (giW l c)≤đ m (giW l c'):=fun c c' h1 h2 h3=>by
   have q1:V[c-(P.length+U.length)]?=some V[c-(P.length+U.length)]:=cE (by omega);have q2:V[c'-(P.length+U.length)]?=some V[c'-(P.length+U.length)]:=cE (by omega);have e1:=gV _ _ q1;have e2:=gV _ _ q2;rw[show P.length+U.length+(c-(P.length+U.length))=c by omega] at e1;rw[show P.length+U.length+(c'-(P.length+U.length))=c' by omega] at e2;rw[e1,e2];exact aa7 sV q1 q2 (by omega)
  have kW:∀c,P.length≤c→c<P.length+U.length+V.length→KOk m (giW l c):=fun c h1 h2=>by
   rcases cZ c (P.length+U.length) with h3|h3
   ·have q1:U[c-P.length]?=some U[c-P.length]:=cE (by omega);have e1:=gU _ _ q1;rw[show P.length+(c-P.length)=c by omega] at e1;rw[e1];exact hW _ (dA _ (fe _))
   ·have q1:V[c-(P.length+U.length)]?=some V[c-(P.length+U.length)]:=cE (by omega);have e1:=gV _ _ q1;rw[show P.length+U.length+(c-(P.length+U.length))=c by omega] at e1;rw[e1];exact hW _ (dw _ (fe _))
  have e0:((P.length+U.length:Nat):Int)-(P.length:Int)=U.length:=by omega
  have e1:((P.length+U.length+V.length:Nat):Int)-((P.length+U.length:Nat):Int)=V.length:=by omega
  rw[e0,e1,Ô (by omega) (by omega),Ô (by omega) (by omega),←hle];have half:Z3 ((P.length:Int)+((P.length+U.length+V.length:Nat):Int))=(((P.length+(P.length+U.length+V.length)) / 2:Nat):Int):=Ij (by omega)
  by_cases hU1:U.length=1
  ·rw[Ù (beq_iff_eq.2 (by rw[hU1]; rfl))]
   obtain⟨x,hx⟩:∃x,U=[x]:=by
    cases U with
    |nil=>simp at hU1
    |cons x t=>cases t with
     |nil=>exact⟨x,rfl⟩
     |cons y t=>simp at hU1
   have gx:giW l P.length=x:=by
    have:=gU 0 x (by rw[hx]; rfl);exact this
   obtain⟨s,s1,s2,s3,s4,s5⟩:=Xp (f:=fun(v:Int×Int) kk=>ù rec (P.length:Int) l m.1.1.1 m.1.1.2 m.1.2.1 m.1.2.2.1 m.1.2.2.2.1 m.1.2.2.2.2.1 m.1.2.2.2.2.2 m.2 v.1 v.2 (fun x y=>kk (x,y)) (fun z7=>Ê (fun(v:Int×List Way) kk=>î rec z7 v.1 v.2 (fun x y=>kk (x,y)) (fun z16=>some (z16,m))) ((P.length:Int),l)))
    (K:=fun z7=>Ê (fun(v:Int×List Way) kk=>î rec z7 v.1 v.2 (fun x y=>kk (x,y)) (fun z16=>some (z16,m))) ((P.length:Int),l)) (lo:=P.length+U.length) (hi:=P.length+U.length+V.length) (by omega)
    (fun h=>đ m (giW l h)<đ m (giW l P.length)) (fun c c' q1 q2 q3 q4=>by have:=kV c c' q1 q2 q3; omega)
    (fun i j q1 q2 q3 kn=>agp rec q2 (by omega) (by omega) (by omega) (kW _ (cF _) (by omega)) (kW _ (by omega) (by omega)) _ _)
    (fun i q1 q2 kn=>by
     dsimp only;unfold ù
     rw[Î (decide_eq_false (by omega))])
   refine s5.trans ?_
   have hk:s-(P.length+U.length)≤V.length:=by omega
   obtain⟨k,hkk⟩:∃k,k=s-(P.length+U.length):=⟨_,rfl⟩;rw[←hkk] at hk
   have lt:(V.take k).length=k:=by simp; omega
   have hB:∀y∈V.take k,đ m y<đ m x:=fun y hy=>by
    obtain⟨j,j1,j2,j3⟩:=qn hy;have:=s3 (P.length+U.length+j) (by omega) (by omega);rw[gV j y j3,gx] at this;exact this
   have hD:∀y∈V.drop k,đ m x≤đ m y:=fun y hy=>by
    obtain⟨j,j1,j2,j3⟩:=qo hy;have:=s4 (P.length+U.length+j) (by omega) (by omega);rw[gV j y j3,gx] at this;omega
   have hv:V=V.take k++V.drop k:=(dP _ _).symm
   have fin:ĺ (đ m) (U++V)=V.take k++x::V.drop k:=by
    rw[hv] at sV;obtain⟨v1,v2,v3⟩:=sV.parts;refine vh ?_ ?_
    ·refine v1.append (List.Pairwise.cons hD v2) fun y hy z hz=>?_;rcases cM.1 hz with rfl|hz
     ·have:=hB y hy; omega
     ·exact v3 y hy z hz
    ·have:=(Stb.swap (key:=đ m) (u:=[x]) (v:=V.take k) (fun a ha b hb=>by simp at ha; subst ha; have:=hB b hb; omega)).append (Stb.refl (V.drop k));rw[hx]
     have e:[x]++V.take k++V.drop k=[x]++V:=by rw[cP,←hv]
     rw[e] at this;simpa using this
   have hs:(s:Int)=((P.length+(V.take k).length+1:Nat):Int):=by rw[lt]; omega
   have:=ZI rec (P:=P) (B:=V.take k) (C:=V.drop k++Q) (x:=x) hs (by rw[lt]; omega) (fun z16=>some (z16,m))
   have e2:l=P++(x::(V.take k++(V.drop k++Q))):=by
    rw[hle,hx,←cP (V.take k),←hv];rfl
   rw[←e2] at this;refine this.trans ?_;rw[fin];simp
  rw[Î (beq_eq_false_iff_ne.2 (fun h=>hU1 (by exact_mod_cast h)))]
  by_cases hV1:V.length=1
  ·rw[Ù (beq_iff_eq.2 (by rw[hV1]; rfl))]
   obtain⟨x,hx⟩:∃x,V=[x]:=by
    cases V with
    |nil=>simp at hV1
    |cons x t=>cases t with
     |nil=>exact⟨x,rfl⟩
     |cons y t=>simp at hV1
   have gx:giW l (P.length+U.length)=x:=by
    have:=gV 0 x (by rw[hx]; rfl);exact this
   obtain⟨s,s1,s2,s3,s4,s5⟩:=Xp (f:=fun(v:Int×Int) kk=>ø rec ((P.length+U.length:Nat):Int) l m.1.1.1 m.1.1.2 m.1.2.1 m.1.2.2.1 m.1.2.2.2.1 m.1.2.2.2.2.1 m.1.2.2.2.2.2 m.2 v.1 v.2 (fun x y=>kk (x,y)) (fun z7=>Ê (fun(v:Int×List Way) kk=>í rec z7 v.1 v.2 (fun x y=>kk (x,y)) (fun z16=>some (z16,m))) (((P.length+U.length:Nat):Int),l)))
    (K:=fun z7=>Ê (fun(v:Int×List Way) kk=>í rec z7 v.1 v.2 (fun x y=>kk (x,y)) (fun z16=>some (z16,m))) (((P.length+U.length:Nat):Int),l)) (lo:=P.length) (hi:=P.length+U.length) (by omega)
    (fun h=>đ m (giW l (P.length+U.length))≥đ m (giW l h)) (fun c c' q1 q2 q3 q4=>by have:=kU c c' q1 q2 q3; omega)
    (fun i j q1 q2 q3 kn=>ago rec q2 (by omega) (by omega) (by omega) (kW _ (by omega) (by omega)) (kW _ (by omega) (by omega)) _ _)
    (fun i q1 q2 kn=>by
     dsimp only;unfold ø
     rw[Î (decide_eq_false (by omega))])
   refine s5.trans ?_;obtain⟨k,hkk⟩:∃k,k=s-P.length:=⟨_,rfl⟩
   have hk:k≤U.length:=by omega
   have lt:(U.take k).length=k:=by simp; omega
   have hB:∀y∈U.take k,đ m y≤đ m x:=fun y hy=>by
    obtain⟨j,j1,j2,j3⟩:=qn hy;have:=s3 (P.length+j) (by omega) (by omega);rw[gU j y j3,gx] at this;exact this
   have hD:∀y∈U.drop k,đ m x<đ m y:=fun y hy=>by
    obtain⟨j,j1,j2,j3⟩:=qo hy;have:=s4 (P.length+j) (by omega) (by omega);rw[gU j y j3,gx] at this;omega
   have hv:U=U.take k++U.drop k:=(dP _ _).symm
   have fin:ĺ (đ m) (U++V)=U.take k++x::U.drop k:=by
    rw[hv] at sU;obtain⟨v1,v2,v3⟩:=sU.parts;refine vh ?_ ?_
    ·refine v1.append (List.Pairwise.cons (fun y hy=>by have:=hD y hy; omega) v2) fun y hy z hz=>?_;rcases cM.1 hz with rfl|hz
     ·exact hB y hy
     ·exact v3 y hy z hz
    ·have:=(Stb.refl (key:=đ m) (U.take k)).append (Stb.swap (key:=đ m) (u:=U.drop k) (v:=[x]) (fun a ha b hb=>by simp at hb; subst hb; have:=hD a ha; omega));rw[hx]
     have e:U.take k++(U.drop k++[x])=U++[x]:=by rw[←cP,←hv]
     rw[e] at this;simpa using this
   have hs:(s:Int)=((P++U.take k).length:Int):=by rw[cI,lt]; omega
   have ld:(U.drop k).length=U.length-k:=by simp
   have:=abP rec (P:=P++U.take k) (B:=U.drop k) (C:=Q) (x:=x) hs (by rw[cI,lt,ld]; omega) (fun z16=>some (z16,m))
   have e2:l=(P++U.take k)++(U.drop k++x::Q):=by
    rw[hle,hx,cP,←cP (U.take k),←hv];rfl
   rw[←e2,show(((P++U.take k).length+(U.drop k).length:Nat):Int)=((P.length+U.length:Nat):Int) by rw[cI,lt,ld]; omega] at this;refine this.trans ?_;rw[fin];simp
  rw[Î (beq_eq_false_iff_ne.2 (fun h=>hV1 (by exact_mod_cast h))),Ô (by omega) (by omega),half];obtain⟨mid,hmid⟩:∃mid,mid=(P.length+(P.length+U.length+V.length)) / 2:=⟨_,rfl⟩;rw[←hmid,Ô (by omega) (by omega)]
  have hm1:P.length≤mid:=by omega
  have hm2:mid≤P.length+U.length+V.length:=by omega
  -- the search, and what is behind it
  have gen:∀lo hi:Nat,P.length≤lo→lo≤hi→hi≤P.length+U.length→hi≤mid→mid+(P.length+U.length)≤lo+(P.length+U.length+V.length)→(hi=P.length+U.length∨hi=mid)→(lo=P.length∨lo+(P.length+U.length+V.length)=mid+(P.length+U.length)) →
   Ê (fun(v:Int×Int) kk=>Þ rec (((mid+(P.length+U.length)-1:Nat)):Int) l m.1.1.1 m.1.1.2 m.1.2.1 m.1.2.2.1 m.1.2.2.2.1 m.1.2.2.2.2.1 m.1.2.2.2.2.2 m.2 v.1 v.2 (fun x y=>kk (x,y)) (agi rec l (P.length:Int) ((P.length+U.length:Nat):Int) ((P.length+U.length+V.length:Nat):Int) (mid:Int) ((mid:Int)+((P.length+U.length:Nat):Int)) m some)) ((lo:Int),(hi:Int))=some (P++(ĺ (đ m) (U++V)++Q),m):=by
   intro lo hi h1 h2 h3 h4 h5 h6 h7
   have hmu:mid<P.length+U.length+V.length:=by omega
   obtain⟨s,s1,s2,s3,s4,s5⟩:=Xp (f:=fun(v:Int×Int) kk=>Þ rec (((mid+(P.length+U.length)-1:Nat)):Int) l m.1.1.1 m.1.1.2 m.1.2.1 m.1.2.2.1 m.1.2.2.2.1 m.1.2.2.2.2.1 m.1.2.2.2.2.2 m.2 v.1 v.2 (fun x y=>kk (x,y)) (agi rec l (P.length:Int) ((P.length+U.length:Nat):Int) ((P.length+U.length+V.length:Nat):Int) (mid:Int) ((mid:Int)+((P.length+U.length:Nat):Int)) m some))
    (K:=agi rec l (P.length:Int) ((P.length+U.length:Nat):Int) ((P.length+U.length+V.length:Nat):Int) (mid:Int) ((mid:Int)+((P.length+U.length:Nat):Int)) m some) (lo:=lo) (hi:=hi) h2
    (fun h=>đ m (giW l (mid+(P.length+U.length)-1-h))≥đ m (giW l h)) (fun c c' q1 q2 q3 q4=>by
     have a1:=kU c c' (by omega) q2 (by omega);have a2:=kV (mid+(P.length+U.length)-1-c') (mid+(P.length+U.length)-1-c) (by omega) (by omega) (by omega)
     omega)
    (fun i j q1 q2 q3 kn=>agn rec q2 (by omega) (by omega) (by omega) (by omega) (by omega) (kW _ (by omega) (by omega)) (kW _ (by omega) (by omega)) _ _)
    (fun i q1 q2 kn=>by
     dsimp only;unfold Þ
     rw[Î (decide_eq_false (by omega))])
   refine s5.trans ?_;obtain⟨e,he⟩:∃e,e=mid+(P.length+U.length)-s:=⟨_,rfl⟩
   have lu1:(U.take (s-P.length)).length=s-P.length:=by simp; omega
   have lu2:(U.drop (s-P.length)).length=P.length+U.length-s:=by simp; omega
   have lv1:(V.take (e-(P.length+U.length))).length=e-(P.length+U.length):=by simp; omega
   have lv2:(V.drop (e-(P.length+U.length))).length=P.length+U.length+V.length-e:=by simp; omega
   have hu:U=U.take (s-P.length)++U.drop (s-P.length):=(dP _ _).symm;have hv:V=V.take (e-(P.length+U.length))++V.drop (e-(P.length+U.length)):=(dP _ _).symm
   have F1:∀x∈U.drop (s-P.length),∀y∈V.take (e-(P.length+U.length)),đ m y<đ m x:=fun x hx y hy=>by
    obtain⟨i,i1,i2,i3⟩:=qo hx;obtain⟨j,j1,j2,j3⟩:=qn hy;have q:=s4 s (cF _) (by omega);rw[show mid+(P.length+U.length)-1-s=e-1 by omega] at q;have a1:=kV (P.length+U.length+j) (e-1) (by omega) (by omega) (by omega);have a2:=kU s (P.length+i) (by omega) (by omega) (by omega);rw[gV j y j3] at a1;rw[gU i x i3] at a2;omega
   have F2:∀x∈U.take (s-P.length),∀y∈V.drop (e-(P.length+U.length)),đ m x≤đ m y:=fun x hx y hy=>by
    obtain⟨i,i1,i2,i3⟩:=qn hx;obtain⟨j,j1,j2,j3⟩:=qo hy;have q:=s3 (s-1) (by omega) (by omega);rw[show mid+(P.length+U.length)-1-(s-1)=e by omega] at q;have a1:=kV e (P.length+U.length+j) (by omega) (by omega) (by omega);have a2:=kU (P.length+i) (s-1) (by omega) (by omega) (by omega);rw[gV j y j3] at a1;rw[gU i x i3] at a2;omega
   have hW':WOk m ((U.take (s-P.length)++U.drop (s-P.length))++(V.take (e-(P.length+U.length))++V.drop (e-(P.length+U.length)))):=by rw[←hu,←hv]; exact hW
   have:=ad3 hrec (P:=P) (u1:=U.take (s-P.length)) (u2:=U.drop (s-P.length)) (v1:=V.take (e-(P.length+U.length))) (v2:=V.drop (e-(P.length+U.length))) (Q:=Q) (by omega) (by omega) (by rw[←hu]; exact sU) (by rw[←hv]; exact sV) F1 F2 hW' (by omega)
    (a:=(P.length:Int)) (c:=((P.length+U.length:Nat):Int)) (b:=((P.length+U.length+V.length:Nat):Int)) (mid:=(mid:Int)) (n:=(mid:Int)+((P.length+U.length:Nat):Int)) (z:=(s:Int)) rfl (by omega) (by omega) (by omega) (by omega) (by omega)
   rw[←hu,←hv,←hle] at this;exact this
  by_cases hgt:mid<P.length+U.length
  ·rw[Ù (decide_eq_true (by omega)),Ô (by omega) (by omega),Ô (by omega) (by omega)];have:=gen (mid+(P.length+U.length)-(P.length+U.length+V.length)) mid (by omega) (by omega) (by omega) (cF _) (by omega) (.inr rfl) (.inr (by omega));rw[show((mid+(P.length+U.length)-1:Nat):Int)=(mid:Int)+((P.length+U.length:Nat):Int)-1 by omega,show((mid+(P.length+U.length)-(P.length+U.length+V.length):Nat):Int)=(mid:Int)+((P.length+U.length:Nat):Int)-((P.length+U.length+V.length:Nat):Int) by omega] at this;exact this
  ·rw[Î (decide_eq_false (by omega)),Ô (by omega) (by omega)];have:=gen P.length (P.length+U.length) (cF _) (by omega) (cF _) (by omega) (by omega) (.inl rfl) (.inl rfl);rw[show((mid+(P.length+U.length)-1:Nat):Int)=(mid:Int)+((P.length+U.length:Nat):Int)-1 by omega] at this;exact this
def Iz {P U V Q:List Way} (hU:1≤U.length) (hV:1≤V.length) (sU:Srt (đ m) U) (sV:Srt (đ m) V) (hW:WOk m (U++V)) (hl:P.length+U.length+V.length≤1000000) :
 Đ (P++(U++(V++Q))) P.length ((P.length+U.length:Nat):Int) ((P.length+U.length+V.length:Nat):Int) m=some (P++(ĺ (đ m) (U++V)++Q),m) :=
 Gi 99 1000000 (by decide) P U V Q hU hV (by omega) sU sV hW hl
end
section
variable {ρ:Type} {m:ń}
inductive Chs (m:ń) (bs:Nat):List Way→Prop
 |last {l:List Way}:l.length≤bs→Srt (đ m) l→Chs m bs l
 |cons {u r:List Way}:u.length=bs→Srt (đ m) u→Chs m bs r→Chs m bs (u++r)
def Chs.split {bs:Nat} {l:List Way} (h:Chs m bs l) (hl:bs<l.length):∃u r,l=u++r∧u.length=bs∧Srt (đ m) u∧Chs m bs r:=by
 cases h with
 |last h1 h2=>omega
 | @cons u r h1 h2 h3=>exact⟨u,r,rfl,h1,h2,h3⟩
def Chs.srt {bs:Nat} {l:List Way} (h:Chs m bs l) (hl:l.length≤bs):Srt (đ m) l:=by
 cases h with
 |last h1 h2=>exact h2
 | @cons u r h1 h2 h3 =>
  have:r=[]:=by
   rw[cI] at hl;exact cX.1 (by omega)
  rw[this,df];exact h2
def csR (m:ń) (bs:Nat):Nat→List Way→List Way
 |0,l=>l
 |f+1,l=>if bs≤l.length then ĺ (đ m) (l.take bs)++csR m bs f (l.drop bs) else ĺ (đ m) l
def mpR (m:ń) (bs:Nat):Nat→List Way→List Way
 |0,l=>l
 |f+1,l=>if 2*bs≤l.length then ĺ (đ m) (l.take (2*bs))++mpR m bs f (l.drop (2*bs)) else if bs<l.length then ĺ (đ m) l else l
def afY {bs:Nat} (hb:1≤bs):∀(f:Nat) (l:List Way),l.length<f→Chs m bs (csR m bs f l)∧Stb (đ m) l (csR m bs f l)
 |0,_,h=>by omega
 |f+1,l,h=>by
  unfold csR
  by_cases hl:bs≤l.length
  ·rw[if_pos hl];obtain⟨h1,h2⟩:=afY hb f (l.drop bs) (by simp; omega);refine⟨.cons (by rw[pG]; simp; omega) (jI _) h1,?_⟩;have:=(ŋ (key:=đ m) (l.take bs)).append h2
   rwa [dP] at this
  ·rw[if_neg hl];exact⟨.last (by rw[pG]; omega) (jI _),ŋ _⟩
def afN {bs:Nat} (hb:1≤bs):∀(f:Nat) (l:List Way),l.length<f→Chs m bs l→Chs m (2*bs) (mpR m bs f l)∧Stb (đ m) l (mpR m bs f l)
 |0,_,h,_=>by omega
 |f+1,l,h,hc=>by
  unfold mpR
  by_cases hl:2*bs≤l.length
  ·rw[if_pos hl]
   have hd:Chs m bs (l.drop (2*bs)):=by
    obtain⟨u,r,rfl,h1,_,h2⟩:=hc.split (by omega)
    have hr:bs≤r.length:=by rw[cI] at hl; omega
    have e:(u++r).drop (2*bs)=r.drop bs:=by
     rw[List.drop_append,f6 (by omega),dI];congr 1; omega
    rw[e];rcases fW hr with h3|h3
    ·obtain⟨u2,r2,rfl,h4,_,h5⟩:=h2.split h3;rw[List.drop_append,f6 (by omega),dI,h4,gP,gF];exact h5
    ·rw[f6 (by omega)];exact .last (by simp) List.Pairwise.nil
   obtain⟨h1,h2⟩:=afN hb f (l.drop (2*bs)) (by simp; omega) hd;refine⟨.cons (by rw[pG]; simp; omega) (jI _) h1,?_⟩;have:=(ŋ (key:=đ m) (l.take (2*bs))).append h2
   rwa [dP] at this
  ·rw[if_neg hl]
   by_cases h2:bs<l.length
   ·rw[if_pos h2];exact⟨.last (by rw[pG]; omega) (jI _),ŋ _⟩
   ·rw[if_neg h2];exact⟨.last (by omega) (hc.srt (by omega)),Stb.refl _⟩
abbrev StT:=Int×Int×List Way×Int×Int×List (Val Õ)×List (Val Ä)×List (Val η)×List (Val ã)×List (Val Ä)×List (Val Ğ)
def stM (a b:Int) (l:List Way) (m:ń):StT:=(a,b,l,m.1.1.1,m.1.1.2,m.1.2.1,m.1.2.2.1,m.1.2.2.2.1,m.1.2.2.2.2.1,m.1.2.2.2.2.2,m.2)
def WOk.stb {l s:List Way} (h:WOk m l) (hs:Stb (đ m) l s):WOk m s:=fun x hx=>h x (hs.mem.1 hx)
def agk {xs:List Way} (hW:WOk m xs) (hn:xs.length≤100000) (K:List Way×ń→Option ρ) :
 Ê (fun(v:StT) kk=>χ (xs.length:Int) (20:Int) v.1 v.2.1 v.2.2.1 v.2.2.2.1 v.2.2.2.2.1 v.2.2.2.2.2.1 v.2.2.2.2.2.2.1 v.2.2.2.2.2.2.2.1 v.2.2.2.2.2.2.2.2.1 v.2.2.2.2.2.2.2.2.2.1 v.2.2.2.2.2.2.2.2.2.2 (fun u42 u43 u44 u45 u46 u47 u48 u49 u50 u51 u52=>kk (u42,u43,u44,u45,u46,u47,u48,u49,u50,u51,u52))
  (fun z3=>Ã (å z3.2.1 z3.1 (xs.length:Int) (((z3.2.2.1,z3.2.2.2.1),z3.2.2.2.2.1,z3.2.2.2.2.2.1,z3.2.2.2.2.2.2.1,z3.2.2.2.2.2.2.2.1,z3.2.2.2.2.2.2.2.2.1),z3.2.2.2.2.2.2.2.2.2)) fun r4=>K r4)) (stM 0 20 xs m)=K (csR m 20 (xs.length+1) xs,m):=by
 refine ĕ (fun v:StT=>∃(A R:List Way) (f:Nat),v=stM (A.length:Int) ((A.length+20:Nat):Int) (A++R) m∧A++csR m 20 f R=csR m 20 (xs.length+1) xs∧R.length<f∧A.length+R.length=xs.length∧WOk m R) (fun v=>(xs.length+100)-v.1.toNat) ?_ ⟨[],xs,xs.length+1,rfl,rfl,by omega,by simp,hW⟩;rintro v ⟨A,R,f,rfl,hR,hf,hl,hWR⟩;obtain⟨f,rfl⟩:∃g,f=g+1:=⟨f-1,by omega⟩
 have e0:csR m 20 (f+1) R=if 20≤R.length then ĺ (đ m) (R.take 20)++csR m 20 f (R.drop 20) else ĺ (đ m) R:=rfl
 rw[e0] at hR
 by_cases h:20≤R.length
 ·have lt:(R.take 20).length=20:=by simp; omega
  have li:(ĺ (đ m) (R.take 20)).length=20:=by rw[pG,lt]
  refine .inr ⟨stM (((A++ĺ (đ m) (R.take 20)).length:Nat):Int) (((A++ĺ (đ m) (R.take 20)).length+20:Nat):Int) ((A++ĺ (đ m) (R.take 20))++R.drop 20) m,⟨_,_,f,rfl,?_,by simp; omega,by rw[cI,li]; simp; omega,hWR.sub fun x hx=>List.mem_of_mem_drop hx⟩,by simp only[stM,cI,li]; omega,fun kn=>?_⟩
  ·rw[if_pos h] at hR;rw[cP];exact hR
  ·show ifb (ile ((A.length+20:Nat):Int) (xs.length:Int)) (Ã (å (A++R) (A.length:Int) ((A.length+20:Nat):Int) m) fun r1=>ck (((A.length+20:Nat):Int)+(20:Int)) fun n2=>kn (stM ((A.length+20:Nat):Int) n2 r1.1 r1.2)) _=_;have:=GP (m:=m) (P:=A) (M:=R.take 20) (Q:=R.drop 20) (hWR.sub fun x hx=>fN hx) (by omega);rw[dP,lt] at this;rw[Ù (decide_eq_true (by omega)),this,À,Ô (by omega) (by omega)];congr 1;rw[cI,li,cP];rfl
 ·refine .inl fun kn=>?_;show ifb (ile ((A.length+20:Nat):Int) (xs.length:Int)) _ (Ã (å (A++R) (A.length:Int) (xs.length:Int) m) fun r4=>K r4)=_;have:=GP (m:=m) (P:=A) (M:=R) (Q:=[]) hWR (by omega);rw[df,hl] at this;rw[Î (decide_eq_false (by omega)),this,À];rw[if_neg h] at hR;rw[←hR,df]
def agj {xs:List Way} {bs:Nat} (hb:1≤bs) (hb2:bs≤200000) (hc:Chs m bs xs) (hW:WOk m xs) (hn:xs.length≤100000) (K:List Way×ń→Option ρ) :
 Ê (fun(v:StT) kk=>ς (xs.length:Int) (bs:Int) v.1 v.2.1 v.2.2.1 v.2.2.2.1 v.2.2.2.2.1 v.2.2.2.2.2.1 v.2.2.2.2.2.2.1 v.2.2.2.2.2.2.2.1 v.2.2.2.2.2.2.2.2.1 v.2.2.2.2.2.2.2.2.2.1 v.2.2.2.2.2.2.2.2.2.2 (fun u16 u17 u18 u19 u20 u21 u22 u23 u24 u25 u26=>kk (u16,u17,u18,u19,u20,u21,u22,u23,u24,u25,u26))
  (fun z10=>ck (z10.1+(bs:Int)) fun n11=>ifb (ilt n11 (xs.length:Int)) (Ã (Đ z10.2.1 z10.1 n11 (xs.length:Int) (((z10.2.2.1,z10.2.2.2.1),z10.2.2.2.2.1,z10.2.2.2.2.2.1,z10.2.2.2.2.2.2.1,z10.2.2.2.2.2.2.2.1,z10.2.2.2.2.2.2.2.2.1),z10.2.2.2.2.2.2.2.2.2)) fun r12=>K r12) (K (z10.2.1,(((z10.2.2.1,z10.2.2.2.1),z10.2.2.2.2.1,z10.2.2.2.2.2.1,z10.2.2.2.2.2.2.1,z10.2.2.2.2.2.2.2.1,z10.2.2.2.2.2.2.2.2.1),z10.2.2.2.2.2.2.2.2.2))))) (stM 0 ((2*bs:Nat):Int) xs m)=K (mpR m bs (xs.length+1) xs,m):=by
 refine ĕ (fun v:StT=>∃(A R:List Way) (f:Nat),v=stM (A.length:Int) ((A.length+2*bs:Nat):Int) (A++R) m∧A++mpR m bs f R=mpR m bs (xs.length+1) xs∧R.length<f∧A.length+R.length=xs.length∧WOk m R∧Chs m bs R) (fun v=>(xs.length+1000000)-v.1.toNat) ?_ ⟨[],xs,xs.length+1,by simp[stM],rfl,by omega,by simp,hW,hc⟩;rintro v ⟨A,R,f,rfl,hR,hf,hl,hWR,hcR⟩;obtain⟨f,rfl⟩:∃g,f=g+1:=⟨f-1,by omega⟩
 have e0:mpR m bs (f+1) R=if 2*bs≤R.length then ĺ (đ m) (R.take (2*bs))++mpR m bs f (R.drop (2*bs)) else if bs<R.length then ĺ (đ m) R else R:=rfl
 rw[e0] at hR
 by_cases h:2*bs≤R.length
 ·obtain⟨u,r,rfl,h1,h2,h3⟩:=hcR.split (by omega)
  have hr:bs≤r.length:=by rw[cI] at h; omega
  -- the second block
  obtain⟨u2,r2,rfl,h4,h5,h6⟩:∃u2 r2,r=u2++r2∧u2.length=bs∧Srt (đ m) u2∧Chs m bs r2:=by
   rcases fW hr with q|q
   ·exact h3.split q
   ·exact⟨r,[],by simp,q.symm,h3.srt (by omega),.last (by simp) List.Pairwise.nil⟩
  have e1:(u++(u2++r2)).take (2*bs)=u++u2:=by
   rw[←cP,eS (by simp; omega),dT (by simp; omega)]
  have e2:(u++(u2++r2)).drop (2*bs)=r2:=by
   rw[←cP,List.drop_append,f6 (by simp; omega),dI];rw[show 2*bs-(u++u2).length=0 by simp; omega];rfl
  have li:(ĺ (đ m) (u++u2)).length=2*bs:=by rw[pG]; simp; omega
  rw[if_pos h,e1,e2] at hR;refine .inr ⟨stM (((A++ĺ (đ m) (u++u2)).length:Nat):Int) (((A++ĺ (đ m) (u++u2)).length+2*bs:Nat):Int) ((A++ĺ (đ m) (u++u2))++r2) m,⟨_,_,f,rfl,by rw[cP]; exact hR,by simp at hf; omega,by rw[cI,li]; simp at hl; omega,hWR.sub fun x hx=>by simp[hx],h6⟩,by simp only[stM,cI,li]; omega,fun kn=>?_⟩;show ifb (ile ((A.length+2*bs:Nat):Int) (xs.length:Int)) (ck ((A.length:Int)+(bs:Int)) fun n6=>Ã (Đ (A++(u++(u2++r2))) (A.length:Int) n6 ((A.length+2*bs:Nat):Int) m) fun r7=>ck ((2:Int)*(bs:Int)) fun n8=>ck (((A.length+2*bs:Nat):Int)+n8) fun n9=>kn (stM ((A.length+2*bs:Nat):Int) n9 r7.1 r7.2)) _=_
  have:=Iz (m:=m) (P:=A) (U:=u) (V:=u2) (Q:=r2) (by omega) (by omega) h2 h5 (hWR.sub fun x hx=>by rcases cJ.1 hx with hx|hx<;>simp[hx]) (by omega)
  rw[h1,h4] at this;rw[List.length_append,List.length_append] at hl;rw[Ù (decide_eq_true (by omega)),Ô (by omega) (by omega),show(A.length:Int)+(bs:Int)=((A.length+bs:Nat):Int) by omega,show((A.length+2*bs:Nat):Int)=((A.length+bs+bs:Nat):Int) by omega,this,À,Ô (by omega) (by omega),Ô (by omega) (by omega)];congr 1;unfold stM;rw[List.length_append,li,List.append_assoc];refine Prod.ext (by dsimp only; omega) (Prod.ext (by dsimp only; omega) rfl)
 ·refine .inl fun kn=>?_;rw[if_neg h] at hR;show ifb (ile ((A.length+2*bs:Nat):Int) (xs.length:Int)) _ (ck ((A.length:Int)+(bs:Int)) fun n11=>ifb (ilt n11 (xs.length:Int)) (Ã (Đ (A++R) (A.length:Int) n11 (xs.length:Int) m) fun r12=>K r12) (K (A++R,m)))=_;rw[Î (decide_eq_false (by omega)),Ô (by omega) (by omega)]
  by_cases h2:bs<R.length
  ·rw[if_pos h2] at hR;obtain⟨u,r,rfl,h1,h3,h4⟩:=hcR.split h2;have:=Iz (m:=m) (P:=A) (U:=u) (V:=r) (Q:=[]) (by omega) (by rw[cI] at h2; omega) h3 (h4.srt (by rw[cI] at h; omega)) hWR (by rw[cI] at hl; omega);rw[df,df,show A.length+u.length+r.length=xs.length by rw[cI] at hl; omega] at this;rw[Ù (decide_eq_true (by omega)),show(A.length:Int)+(bs:Int)=((A.length+u.length:Nat):Int) by omega,this,À,hR]
  ·rw[if_neg h2] at hR;rw[Î (decide_eq_false (by omega)),hR]
abbrev StQ:=Int×List Way×Int×Int×List (Val Õ)×List (Val Ä)×List (Val η)×List (Val ã)×List (Val Ä)×List (Val Ğ)
def stQ (b:Int) (l:List Way) (m:ń):StQ:=(b,l,m.1.1.1,m.1.1.2,m.1.2.1,m.1.2.2.1,m.1.2.2.2.1,m.1.2.2.2.2.1,m.1.2.2.2.2.2,m.2)
def aa6 {xs:List Way} (hW:WOk m xs) (hn:xs.length≤100000):ĵ xs (xs.length:Int) m=some (ĺ (đ m) xs,m):=by
 unfold ĵ iS;refine(agk hW hn (fun r4=>Ê (fun(v29:StQ) kk40=>υ (xs.length:Int) v29.1 v29.2.1 v29.2.2.1 v29.2.2.2.1 v29.2.2.2.2.1 v29.2.2.2.2.2.1 v29.2.2.2.2.2.2.1 v29.2.2.2.2.2.2.2.1 v29.2.2.2.2.2.2.2.2.1 v29.2.2.2.2.2.2.2.2.2 (fun u30 u31 u32 u33 u34 u35 u36 u37 u38 u39=>kk40 (u30,u31,u32,u33,u34,u35,u36,u37,u38,u39)) (fun z28=>some (z28.1,(((z28.2.1,z28.2.2.1),z28.2.2.2.1,z28.2.2.2.2.1,z28.2.2.2.2.2.1,z28.2.2.2.2.2.2.1,z28.2.2.2.2.2.2.2.1),z28.2.2.2.2.2.2.2.2)))) (stQ (20:Int) r4.1 r4.2))).trans ?_;obtain⟨c1,c2⟩:=afY (m:=m) (bs:=20) (by omega) (xs.length+1) xs (by omega);refine ĕ (fun v:StQ=>∃(bs:Nat) (l:List Way),1≤bs∧bs≤200000∧v=stQ (bs:Int) l m∧Chs m bs l∧Stb (đ m) xs l) (fun v=>400000-v.1.toNat) ?_ ⟨20,_,by omega,by omega,rfl,c1,c2⟩;rintro v ⟨bs,l,hb,hb2,rfl,hc,hs⟩;have hl:=hs.length
 by_cases h:bs<xs.length
 ·obtain⟨d1,d2⟩:=afN hb (l.length+1) l (by omega) hc;refine .inr ⟨stQ ((2*bs:Nat):Int) (mpR m bs (l.length+1) l) m,⟨2*bs,_,by omega,by omega,rfl,d1,hs.trans d2⟩,by simp only[stQ]; omega,fun kn=>?_⟩;have:=agj (m:=m) (xs:=l) hb hb2 hc (hW.stb hs) (by omega) (fun r=>ck ((bs:Int)*(2:Int)) fun n13=>kn (stQ n13 r.1 r.2));rw[hl] at this;show ifb (ilt (bs:Int) (xs.length:Int)) (ck ((2:Int)*(bs:Int)) fun n5=>_) _=_;rw[Ù (decide_eq_true (by omega)),Ô (by omega) (by omega),show(2:Int)*(bs:Int)=((2*bs:Nat):Int) by push_cast; rfl];rw[hl];refine eI ?_ (this.trans ?_)
  ·rfl
  ·rw[Ô (by omega) (by omega)];congr 2;omega
 ·refine .inl fun kn=>?_;show ifb (ilt (bs:Int) (xs.length:Int)) _ (some (l,m))=_;rw[Î (decide_eq_false (by omega)),vh (hc.srt (by omega)) hs]
end
abbrev Mx:=Int×List Int
def Ŋ:List Mx→Way→Prop
 |[],[]=>True
 |m::ms,l::ls=>l.Perm m.2∧Ŋ ms ls
 |_,_=>False
def Ŋ.len:∀{ms:List Mx} {w:Way},Ŋ ms w→w.length=ms.length
 |[],[],_=>rfl
 |m::ms,l::ls,h=>by simp[h.2.len]
def Ŋ.at:∀{ms:List Mx} {w:Way} {i:Nat} {m:Mx},Ŋ ms w→ms[i]?=some m→∃l,w[i]?=some l∧l.Perm m.2
 |[],_,i,_,_,h=>by simp at h
 |m::ms,l::ls,0,x,h,hx=>by
  simp at hx; subst hx;exact⟨l,rfl,h.1⟩
 |m::ms,l::ls,i+1,x,h,hx=>by
  simp only[fw] at hx ⊢;exact h.2.at hx
def stp (d:Int) (m:Mx) (l:List Int) (x:Int):Int :=
 if m.1<d then match l.findIdx? (·==x) with|some k=>m.2.getD k 0|none=>x else x
def iM:List Mx→Way→Int→Int→Int
 |m::ms,l::ls,x,d=>stp d m l (iM ms ls x d)
 |_,_,x,_=>x
def adY {ms:List Mx} {w:Way} {i:Nat} {m:Mx} {l:List Int} (hm:ms[i]?=some m) (hl:w[i]?=some l) (x d:Int):iM (ms.drop i) (w.drop i) x d=stp d m l (iM (ms.drop (i+1)) (w.drop (i+1)) x d):=by
 obtain⟨h1,rfl⟩:=cH.1 hm;obtain⟨h2,rfl⟩:=cH.1 hl;rw[dB h1,dB h2,iM]
def who_ok {m:ń} {w:Way} (h:Ŋ m.2 w) (hn:m.2.length≤1000) (hl:∀x∈m.2,x.2.length≤1000) (x d:Int):sa m w x d=some (iM m.2 w x d):=by
 unfold sa VY;rw[Ñ,Ô (by omega) (by omega)];refine ĕ (fun s:Int×Int=>∃i:Nat,i≤m.2.length∧s.2=(i:Int)-1∧s.1=iM (m.2.drop i) (w.drop i) x d) (fun s=>(s.2+1).toNat) ?_ ⟨m.2.length,Nat.le_refl _,rfl,?_⟩
 ·rintro⟨s1,s2⟩ ⟨i,hi,h1,h2⟩;simp only at h1 h2;subst h1 h2
  cases i with
  |zero =>
   refine .inl fun kn=>?_
   try dsimp only
   unfold yu;rw[Î (by simp[ige])]; rfl
  |succ i =>
   obtain⟨y,hy⟩:∃y,m.2[i]?=some y:=⟨_,cE hi⟩;obtain⟨l,hw,hp⟩:=h.at hy
   have hll:l.length≤1000:=by rw[hp.length_eq]; exact hl y (cN hy)
   have e0:((i+1:Nat):Int)-1=i:=by omega
   refine .inr ⟨(iM (m.2.drop i) (w.drop i) x d,(i:Int)-1),⟨i,by omega,rfl,rfl⟩,by simp only[e0]; omega,fun kn=>?_⟩
   try dsimp only
   unfold yu;rw[e0,Ù (by simp[ige]),É hw,Vi (by omega),À,adY hy hw];unfold stp
   cases hf:l.findIdx? (·==iM (m.2.drop (i+1)) (w.drop (i+1)) x d) with
   |none =>
    dsimp only;rw[Î (by simp[ige]),Ô (by omega) (by omega)]
    split<;>rfl
   |some k =>
    dsimp only;rw[Ù (by simp[ige]),É hy]
    have hk:k<y.2.length:=by rw[←hp.length_eq]; exact(dF.1 hf).1
    by_cases hd:y.1<d
    ·rw[Ù (by simp[ilt,hd]),É hy,É (cE hk),Ô (by omega) (by omega),if_pos hd];rw[ej,cE hk]; rfl
    ·rw[Î (by simp[ilt,hd]),Ô (by omega) (by omega),if_neg hd]
 ·simp only[List.drop_length];rw[←h.len,List.drop_length];unfold iM;rfl
def Vs:List Int→List Int→Int
 |x::l,y::m=>(if y=x then 0 else 1)+Vs l m
 |_,_=>0
def L4:List Mx→Way→Int
 |m::ms,l::ls=>Vs l m.2+L4 ms ls
 |_,_=>0
def RZ:∀{l m:List Int} {k:Nat} {x y:Int},l[k]?=some x→m[k]?=some y→Vs (l.take (k+1)) (m.take (k+1))=Vs (l.take k) (m.take k)+if y=x then 0 else 1
 |[],_,_,_,_,h,_=>by simp at h
 |_::_,[],_,_,_,_,h=>by simp at h
 |a::l,b::m,0,x,y,h1,h2=>by
  simp at h1 h2; subst h1 h2;simp[Vs]
 |a::l,b::m,k+1,x,y,h1,h2=>by
  simp only[fw] at h1 h2;have:=RZ h1 h2;simp only[gn,Vs,this]; omega
def RY:∀{ms:List Mx} {w:Way} {k:Nat} {m:Mx} {l:List Int},ms[k]?=some m→w[k]?=some l→L4 (ms.take (k+1)) (w.take (k+1))=L4 (ms.take k) (w.take k)+Vs l m.2
 |[],_,_,_,_,h,_=>by simp at h
 |_::_,[],_,_,_,_,h=>by simp at h
 |a::l,b::m,0,x,y,h1,h2=>by
  simp at h1 h2; subst h1 h2;simp[L4]
 |a::l,b::m,k+1,x,y,h1,h2=>by
  simp only[fw] at h1 h2;have:=RY h1 h2;simp only[gn,L4,this]; omega
def Vr:∀l m:List Int,0≤Vs l m∧Vs l m≤m.length
 |[],m=>by simp[Vs]
 |_::_,[]=>by simp[Vs]
 |a::l,b::m=>by
  have:=Vr l m;unfold Vs;simp only[List.length_cons]
  split<;>omega
def aaO {n:Nat}:∀{ms:List Mx} {w:Way},(∀m∈ms,m.2.length≤n)→0≤L4 ms w∧L4 ms w≤(ms.length*n:Nat)
 |[],w,_=>by simp[L4]
 |m::ms,[],_=>by
  unfold L4; exact⟨Int.le_refl _,Int.natCast_nonneg _⟩
 |m::ms,l::ls,h=>by
  have h1:=Vr l m.2;have h2:=h m (by simp);have h3:=aaO (w:=ls) fun x hx=>h x (List.mem_cons_of_mem _ hx);unfold L4
  have:(m::ms).length*n=ms.length*n+n:=by rw[cS,Nat.succ_mul]
  omega
def af9 {n:Nat} {ms:List Mx} (hn:ms.length≤1000) (hl:∀x∈ms,x.2.length≤1000) (w:Way) (i:Nat):0≤L4 (ms.take i) w∧L4 (ms.take i) w≤1000000:=by
 have h1:=aaO (n:=1000) (ms:=ms.take i) (w:=w) fun m hm=>hl m (fN hm);have h2:(ms.take i).length*1000≤1000*1000:=dl _ (by rw[cY]; omega);omega
def aaP {m:ń} {w:Way} (h:Ŋ m.2 w) (hn:m.2.length≤1000) (hl:∀x∈m.2,x.2.length≤1000):Ĵ m w=some (L4 m.2 w):=by
 unfold Ĵ EP;have hlen:=h.len;refine ĕ (fun s:Int×Int=>∃i:Nat,i≤w.length∧s.2=(i:Int)∧s.1=L4 (m.2.take i) (w.take i)) (fun s=>w.length-s.2.toNat) ?_ ⟨0,Nat.zero_le _,rfl,by simp[L4]⟩;rintro⟨s1,s2⟩ ⟨i,hi,h1,h2⟩;simp only at h1 h2;subst h1 h2;rcases Nat.lt_or_ge i w.length with hlt|hge
 ·obtain⟨y,hy⟩:∃y,m.2[i]?=some y:=⟨_,cE (by omega)⟩;obtain⟨l,hw,hp⟩:=h.at hy
  have hll:l.length≤1000:=by rw[hp.length_eq]; exact hl y (cN hy)
  refine .inr ⟨(L4 (m.2.take (i+1)) (w.take (i+1)),(i:Int)+1),⟨i+1,hlt,by simp,rfl⟩,by simp only[cT]; omega,fun kn=>?_⟩
  try dsimp only
  unfold om;rw[Ò hlt,É hw];have hb:=af9 (n:=0) hn hl (w.take i) i;refine ĕ (fun s:Int×Int=>∃k:Nat,k≤l.length∧s.2=(k:Int)∧s.1=L4 (m.2.take i) (w.take i)+Vs (l.take k) (y.2.take k)) (fun s=>l.length-s.2.toNat) ?_ ⟨0,Nat.zero_le _,rfl,by simp[Vs]⟩;rintro⟨t1,t2⟩ ⟨k,hk,h1,h2⟩;simp only at h1 h2;subst h1 h2;have hb2:=Vr (l.take k) (y.2.take k)
  have hb3:(y.2.take k).length≤1000:=by rw[cY]; omega
  rcases cZ k l.length with hkl|hkg
  ·obtain⟨u,hu⟩:∃u,l[k]?=some u:=⟨_,cE hkl⟩;obtain⟨v,hv⟩:∃v,y.2[k]?=some v:=⟨_,cE (by rw[←hp.length_eq]; exact hkl)⟩;refine .inr ⟨(L4 (m.2.take i) (w.take i)+Vs (l.take (k+1)) (y.2.take (k+1)),(k:Int)+1),⟨k+1,hkl,by simp,rfl⟩,by simp only[cT]; omega,fun kn=>?_⟩
   try dsimp only
   unfold ol;rw[Ò hkl,É hu,É hy,É hv,RZ hu hv]
   by_cases huv:v=u
   ·rw[Î (by simp[ine,huv]),Ô (by omega) (by omega),if_pos huv]; simp
   ·rw[Ù (by simp[ine,huv]),Ô (by omega) (by omega),Ô (by omega) (by omega),if_neg huv,Int.add_assoc]
  ·refine .inl fun kn'=>?_
   have hk':k=l.length:=by omega
   subst hk'
   try dsimp only
   unfold ol;rw[â];dsimp only;rw[Ô (by omega) (by omega),RY hy hw,List.take_length,hp.length_eq,List.take_length]
 ·refine .inl fun kn=>?_
  have hk':i=w.length:=by omega
  subst hk'
  try dsimp only
  unfold om;rw[â,List.take_length,hlen,List.take_length]
def agL (a:Int):List Int→List Int
 |[]=>[a]
 |b::t=>if a≤b then a::b::t else b::agL a t
def lP:List Int→List Int
 |[]=>[]
 |a::t=>agL a (lP t)
def wo (p:Option Int):List Int→List Int
 |[]=>[]
 |a::t=>if p=some a then wo (some a) t else a::wo (some a) t
def Vl (l:List Int):List Int:=wo none (lP l)
def KW (a:Int):∀l,(agL a l).Perm (a::l)
 |[]=>List.Perm.refl _
 |b::t=>by
  unfold agL
  split
  ·exact List.Perm.refl _
  ·exact((KW a t).cons b).trans (List.Perm.swap a b t)
def ŝ:∀l,(lP l).Perm l
 |[]=>List.Perm.refl _
 |a::t=>(KW a _).trans ((ŝ t).cons a)
def KV (a:Int):∀{l:List Int},l.Pairwise (·≤·)→(agL a l).Pairwise (·≤·)
 |[],_=>by simp[agL]
 |b::t,h=>by
  rw[List.pairwise_cons] at h;unfold agL
  split
  ·rename_i hab;refine dv.2 ⟨fun x hx=>?_,dv.2 h⟩;rcases cM.1 hx with rfl|hx
   ·exact hab
   ·have:=h.1 x hx; omega
  ·rename_i hab;refine dv.2 ⟨fun x hx=>?_,KV a h.2⟩;rcases cM.1 ((KW a t).mem_iff.1 hx) with rfl|hx
   ·omega
   ·exact h.1 x hx
def lf:∀l:List Int,(lP l).Pairwise (·≤·)
 |[]=>List.Pairwise.nil
 |a::t=>KV a (lf t)
def Pg (l:List Int):wt l=lP l:=by
 have h1:(wt l).Pairwise (·≤·):=by
  have:=List.pairwise_mergeSort (le:=fun a b:Int=>decide (a≤b)) (fun a b c h1 h2=>by simp at *; omega) (fun a b=>by simp; omega) l
  exact this.imp fun h=>by simpa using h
 exact List.Perm.eq_of_pairwise (le:=(·≤·)) (fun a b _ _ h1 h2=>by omega) h1 (lf l) ((List.mergeSort_perm l _).trans (ŝ l).symm)
def NK (a:Int):∀(l:List Int) (p:Option Int),wo p (l++[a])=wo p l++(if (match l.getLast? with|some b=>some b|none=>p)=some a then[] else[a])
 |[],p=>by simp only[dI,wo,List.getLast?_nil]; rfl
 |b::t,p=>by
  have ih:=NK a t (some b)
  have e:(match (b::t).getLast? with|some c=>some c|none=>p)=(match t.getLast? with|some c=>some c|none=>some b):=by
   cases t with
   |nil=>rfl
   |cons c t =>
    rw[List.getLast?_cons_cons]
    cases h:(c::t).getLast? with
    |none=>simp at h
    |some x=>rfl
  rw[e];simp only[eO,wo,ih]
  split<;>simp
def AC (l:List Int):∀m,m≤l.length→Lib.compactUpTo l.toArray m=wo none (l.take m)
 |0,_=>by simp[Lib.compactUpTo,wo]
 |m+1,h=>by
  have hm:m<l.length:=h;rw[Lib.compactUpTo_succ,AC l m (by omega),take_succ (cE hm),NK];congr 1
  have e1:l.toArray[m]! = l[m]:=by simp[getElem!_pos,hm]
  rw[e1];unfold Lib.keeps;rw[e1]
  cases m with
  |zero=>simp
  |succ m =>
   have hm':m<l.length:=by omega
   have e2:l.toArray[m+1-1]! = l[m]:=by simp[getElem!_pos,hm']
   rw[e2]
   have e3:(l.take (m+1)).getLast?=some l[m]:=by rw[take_succ (cE hm'),List.getLast?_append]; rfl
   rw[e3]
   by_cases hne:l[m+1]=l[m]
   ·simp[hne]
   ·have:¬l[m]=l[m+1]:=fun h=>hne h.symm;simp[hne,this]
def Xe (l:List Int):yU l=wo none l:=by
 unfold yU Lib.compact;rw[AC l l.length (Nat.le_refl _),List.take_length]
def abe (l:List Int):yU (wt l)=Vl l:=by rw[Pg,Xe]; rfl
def Sg:∀{l:List Int} {p:Option Int} {x:Int},p≠some x→(x∈wo p l↔x∈l)
 |[],_,_,_=>Iff.rfl
 |a::t,p,x,hp=>by
  unfold wo
  by_cases hx:x=a
  ·subst hx;rw[if_neg hp]; simp
  ·have ih:=Sg (l:=t) (p:=some a) (x:=x) (fun e=>hx (by cases e; rfl))
   split<;>simp[ih,hx]
def XG:∀{l:List Int} {p:Option Int},l.Pairwise (·≤·)→(∀q,p=some q→∀x∈l,q≤x)→(wo p l).Pairwise (·<·)∧∀q,p=some q→∀x∈wo p l,q<x
 |[],p,_,_=>⟨List.Pairwise.nil,fun _ _ _ h=>by cases h⟩
 |a::t,p,h,hp=>by
  rw[List.pairwise_cons] at h;obtain⟨i1,i2⟩:=XG (l:=t) (p:=some a) h.2 (fun q hq x hx=>by cases hq; exact h.1 x hx);unfold wo
  split
  ·rename_i e;exact⟨i1,fun q hq x hx=>by rw[e] at hq; cases hq; exact i2 _ rfl x hx⟩
  ·rename_i e;refine⟨dv.2 ⟨fun x hx=>i2 _ rfl x hx,i1⟩,fun q hq x hx=>?_⟩;have:=hp q hq a (by simp);have hne:q≠a:=fun h=>e (by rw[hq,h]);rcases cM.1 hx with rfl|hx
   ·omega
   ·have:=i2 _ rfl x hx; omega
def B5 {l:List Int} {x:Int}:x∈Vl l↔x∈l:=by
 unfold Vl;rw[Sg (by simp),(ŝ l).mem_iff]
def VD (l:List Int):(Vl l).Pairwise (·<·):=(XG (lf l) (fun q hq=>by cases hq)).1
def Sh:∀(l:List Int) (p:Option Int),(wo p l).length≤l.length
 |[],_=>cF _
 |a::t,p=>by
  have:=Sh t (some a);unfold wo
  split<;>simp<;>omega
def HZ (l:List Int):(Vl l).length≤l.length:=by
 unfold Vl;have:=Sh (lP l) none
 rwa [(ŝ l).length_eq] at this
def ahj {l m:List Int} (hl:l.Pairwise (·<·)) (hm:m.Pairwise (·<·)) (h:∀x,x∈l↔x∈m):l=m:=by
 induction l generalizing m with
 |nil =>
  cases m with
  |nil=>rfl
  |cons a t=>have:=(h a).2 (by simp); cases this
 |cons a t ih =>
  rw[dv] at hl
  cases m with
  |nil=>have:=(h a).1 (by simp); cases this
  |cons b u =>
   rw[dv] at hm
   have hab:a=b:=by
    rcases cM.1 ((h a).1 (by simp)) with h1|h1
    ·exact h1
    ·rcases cM.1 ((h b).2 (by simp)) with h2|h2
     ·exact h2.symm
     ·have:=hm.1 a h1; have:=hl.1 b h2; omega
   subst hab;rw[ih hl.2 hm.2 fun x=>?_];constructor
   ·intro hx;rcases cM.1 ((h x).1 (by simp[hx])) with h1|h1
    ·have:=hl.1 x hx; omega
    ·exact h1
   ·intro hx;rcases cM.1 ((h x).2 (by simp[hx])) with h1|h1
    ·have:=hm.1 x hx; omega
    ·exact h1
def wy (b:ę) (s:List (Int×Ā)) (c:Cmp):Int :=
 if (c.2.2.1++c.2.2.2.1).any (fun id=>mP s id c.2.1==5) then 5 else
 if (c.2.2.1++c.2.2.2.1).any (fun id=>mP s id c.2.1==4) then 4 else
 if (c.2.2.1++c.2.2.2.1).any (fun id=>(lG b id c.2.1).isSome) then 9 else
 if 1<(ÿ c.2.2.1 c.2.2.2.1).length then 1 else if 1<(ÿ c.2.2.2.1 c.2.2.1).length then 1 else
 if (ÿ c.2.2.1 c.2.2.2.1).length+(ÿ c.2.2.2.1 c.2.2.1).length=0 then 1 else 0
def ZE (c:Cmp):Bool :=
 inP c.1 1 1099511627776&&(O0 c.2.1&&(inP c.2.2.2.2.1 (-1125899906842624) 1125899906842624&&(inP c.2.2.2.2.2.1 0 1073741824&&(oe c.2.2.2.2.2.2 (-10000) 10000&&(wA c.2.2.1&&wA c.2.2.2.1)))))
def oE (b:ę) (s:List (Int×Ā)) (i:Nat) (c:Cmp):Int :=
 if !ZE c then 1 else if (b.2.2.2.2.1.take i).any (fun x=>x.1==c.1) then 6 else wy b s c
def DI (a b:List Int):(ÿ a b).length≤a.length:=dW _ _
set_option maxHeartbeats 1000000 in
def LA {b:ę} (hn:b.2.2.2.2.1.length≤1000) (hl:b.2.2.2.1.length≤1000) (s:List (Int×Ā)) {i:Nat} {c:Cmp} (hA:c.2.2.1.length≤1000) (hB:c.2.2.2.1.length≤1000)
 (hc:b.2.2.2.2.1[i]?=some c):ň b s i=some (oE b s i c):=by
 have hi:i<b.2.2.2.2.1.length:=(List.getElem?_eq_some_iff.1 hc).1;unfold ň nW oE ZE;rw[É hc,ζ,À]
 cases inP c.1 1 1099511627776 with
 |false=>rfl
 |true =>
 rw[Ig,À]
 cases O0 c.2.1 with
 |false=>rfl
 |true =>
 rw[ζ,À]
 cases inP c.2.2.2.2.1 (-1125899906842624) 1125899906842624 with
 |false=>rfl
 |true =>
 rw[ζ,À]
 cases inP c.2.2.2.2.2.1 0 1073741824 with
 |false=>rfl
 |true =>
 rw[DM,À]
 cases oe c.2.2.2.2.2.2 (-10000) 10000 with
 |false=>rfl
 |true =>
 rw[DL (by omega),À]
 cases wA c.2.2.1 with
 |false=>rfl
 |true =>
 rw[DL (by omega),À]
 cases wA c.2.2.2.1 with
 |false=>rfl
 |true =>
 have hg:((ile (0:Int) (i:Int))&&(ile (i:Int) (ì b.2.2.2.2.1)))=true:=by simp[ile,ì]; omega
 simp only[dz,é,Bool.and_self,cV,if_false];rw[ð hg,cT]
 -- what comes behind the IDs
 have rest:(Ã (Ħ ([c.2.2.1,c.2.2.2.1])) fun r12=>Ê (fun(v36:Int) kk38=>Ŏ s r12 (Ø ([(5:Int),(4:Int)])) c.2.1 ([(5:Int),(4:Int)]) v36 (fun u37=>kk38 u37) (fun z23=>some z23) (fun _=>Ê (fun(v33:Int) kk35=>ō r12 (Ø r12) b.1.1 b.1.2 b.2.1 b.2.2.1 b.2.2.2.1 b.2.2.2.2.1 b.2.2.2.2.2 c.2.1 v33 (fun u34=>kk35 u34) (fun z28=>some z28) (fun _=>Ã (Ι c.2.2.1 c.2.2.2.1) fun r30=>Ã (Ι c.2.2.2.1 c.2.2.1) fun r31=>ifb (igt (Ø r30) (1:Int)) (some (1:Int)) (ifb (igt (Ø r31) (1:Int)) (some (1:Int)) (ck ((Ø r30)+(Ø r31)) fun n32=>ifb (ieq n32 (0:Int)) (some (1:Int)) (some (0:Int)))))) (0:Int))) (0:Int))=some (wy b s c):=by
  rw[L3 (by omega) (by omega),À]
  have hall:(c.2.2.1++c.2.2.2.1).length≤2000:=by simp; omega
  have last:(Ã (Ι c.2.2.1 c.2.2.2.1) fun r30=>Ã (Ι c.2.2.2.1 c.2.2.1) fun r31=>ifb (igt (Ø r30) (1:Int)) (some (1:Int)) (ifb (igt (Ø r31) (1:Int)) (some (1:Int)) (ck ((Ø r30)+(Ø r31)) fun n32=>ifb (ieq n32 (0:Int)) (some (1:Int)) (some (0:Int))))) =
   some (if 1<(ÿ c.2.2.1 c.2.2.2.1).length then 1 else if 1<(ÿ c.2.2.2.1 c.2.2.1).length then 1 else if (ÿ c.2.2.1 c.2.2.2.1).length+(ÿ c.2.2.2.1 c.2.2.1).length=0 then 1 else 0):=by
   rw[xP (by omega) (by omega),À,xP (by omega) (by omega),À];have l1:=DI c.2.2.1 c.2.2.2.1;have l2:=DI c.2.2.2.1 c.2.2.1;rw[Ñ,Ñ,Ô (by omega) (by omega)]
   by_cases c1:1<(ÿ c.2.2.1 c.2.2.2.1).length
   ·rw[Ù (by simp[igt]; omega),if_pos c1]
   rw[Î (by simp[igt]; omega),if_neg c1]
   by_cases c2:1<(ÿ c.2.2.2.1 c.2.2.1).length
   ·rw[Ù (by simp[igt]; omega),if_pos c2]
   rw[Î (by simp[igt]; omega),if_neg c2]
   by_cases c3:(ÿ c.2.2.1 c.2.2.2.1).length+(ÿ c.2.2.2.1 c.2.2.1).length=0
   ·rw[Ù (by simp[ieq]; omega),if_pos c3]
   rw[Î (by simp[ieq]; omega),if_neg c3]
  refine eI (mj [(5:Int),4] (fun _ want=>if (c.2.2.1++c.2.2.2.1).any (fun id=>mP s id c.2.1==want) then some want else none) some (some (if (c.2.2.1++c.2.2.2.1).any (fun id=>(lG b id c.2.1).isSome) then 9 else if 1<(ÿ c.2.2.1 c.2.2.2.1).length then 1 else if 1<(ÿ c.2.2.2.1 c.2.2.1).length then 1 else if (ÿ c.2.2.1 c.2.2.2.1).length+(ÿ c.2.2.2.1 c.2.2.1).length=0 then 1 else 0)) (fun j want hj hw kn=>?_) (fun kn=>?_)) ?_
  ·try dsimp only
   unfold Ŏ;rw[Ò hj,Ī hj,ò hw];refine Eq.trans (ũ (c.2.2.1++c.2.2.2.1) (fun id=>mP s id c.2.1==want) (fun _=>some want) (some want) (kn ((j:Int)+1)) (fun _=>rfl) (fun k a hk ha kn'=>?_) (fun kn'=>?_)) ?_
   ·try dsimp only
    unfold ip;rw[Ò hk,É ha,VV,À,Ë hk (by omega),Č]
   ·try dsimp only
    unfold ip;rw[â,Ë hj (by simp)]
   ·cases List.any (c.2.2.1++c.2.2.2.1) (fun id=>mP s id c.2.1==want)<;>rfl
  ·try dsimp only
   unfold Ŏ;rw[â];refine Eq.trans (ũ (c.2.2.1++c.2.2.2.1) (fun id=>(lG b id c.2.1).isSome) (fun _=>some 9) (some 9) (some (if 1<(ÿ c.2.2.1 c.2.2.2.1).length then 1 else if 1<(ÿ c.2.2.2.1 c.2.2.1).length then 1 else if (ÿ c.2.2.1 c.2.2.2.1).length+(ÿ c.2.2.2.1 c.2.2.1).length=0 then 1 else 0)) (fun _=>rfl) (fun k a hk ha kn'=>?_) (fun kn'=>?_)) ?_
   ·try dsimp only
    unfold ō;have haw:=adC hl a c.2.1;rw[Ò hk,É ha,Ë hk (by omega)];rw[show vr ((b.1.1,b.1.2),b.2.1,b.2.2.1,b.2.2.2.1,b.2.2.2.2.1,b.2.2.2.2.2) a c.2.1=vr b a c.2.1 from rfl,haw,À]
    cases lG b a c.2.1<;>rfl
   ·try dsimp only
    unfold ō;rw[â,last]
   ·cases List.any (c.2.2.1++c.2.2.2.1) (fun id=>(lG b id c.2.1).isSome)<;>rfl
  ·unfold wy Ň Ň Ň
   try dsimp only
   cases List.any (c.2.2.1++c.2.2.2.1) (fun id=>mP s id c.2.1==5) with
   |true=>rfl
   |false =>
   cases List.any (c.2.2.1++c.2.2.2.1) (fun id=>mP s id c.2.1==4)<;>rfl
 refine eI (ũ (b.2.2.2.2.1.take i) (fun x=>x.1==c.1) (fun z11=>ifb (ige z11 (0:Int)) (some 6) (some (wy b s c))) (some 6) (some (wy b s c)) (fun j=>?_) (fun j a hj ha kn=>?_) (fun kn=>?_)) ?_
 ·have:ige (j:Int) 0=true:=by simp[ige]
  rw[Ù this]
 ·try dsimp only
  unfold iq;rw[rest,Ò hj,É ha,Ë hj (by rw[List.length_take]; omega),Č]
 ·try dsimp only
  unfold iq;rw[â,rest]
 ·cases List.any (b.2.2.2.2.1.take i) (fun x=>x.1==c.1)<;>rfl
def UN (b:ę) (g:Ā):List Int :=
 [g.2.1]++(b.2.2.2.2.1.filter fun c=>!(c.2.2.1.contains g.1==c.2.2.2.1.contains g.1)).map (fun c=>c.2.1)++(b.2.2.2.2.2.filter fun n=>n.1==g.1).map (fun n=>n.2)
def è (b:ę) (g:Ā):List Int:=Vl (UN b g)
structure tS (b:ę):Prop where
 gauges:b.2.1.length≤1000
 uses:b.2.2.1.length≤1000
 loans:b.2.2.2.1.length≤1000
 compares:b.2.2.2.2.1.length≤1000
 looks:b.2.2.2.2.2.length≤1000
 piles:∀c∈b.2.2.2.2.1,c.2.2.1.length≤1000∧c.2.2.2.1.length≤1000
def Sr (l:List Int):(wt l).length=l.length:=List.length_mergeSort l
def UM {b:ę} (hs:tS b) (g:Ā):(UN b g).length≤2001:=by
 have h1:=hs.compares;have h2:=hs.looks;have h3:=dW (fun c:Cmp=>!(c.2.2.1.contains g.1==c.2.2.2.1.contains g.1)) b.2.2.2.2.1;have h4:=dW (fun n:Int×Int=>n.1==g.1) b.2.2.2.2.2;simp only[UN,cI,dE,dH];omega
def acT {b:ę} (hs:tS b) (g:Ā):oD b g=some (è b g):=by
 unfold oD QT;have hr:=UM hs g
 have hd:(è b g).length≤2001:=by
  unfold è;have:=HZ (UN b g);omega
 have hcl:=hs.compares;have hll:=hs.looks;refine ġ b.2.2.2.2.1 (fun i=>[g.2.1]++((b.2.2.2.2.1.take i).filter fun c=>!(c.2.2.1.contains g.1==c.2.2.2.1.contains g.1)).map (fun c=>c.2.1)) _ rfl (fun i c hi hc kn=>?_) (fun kn=>?_)
 ·try dsimp only
  unfold uY;obtain⟨p1,p2⟩:=hs.piles c (List.mem_of_getElem? hc);rw[Ò hi,É hc,ħ (by omega),À,ħ (by omega),À,Ë hi (by omega),Ë hi (by omega),take_succ hc,List.filter_append,List.map_append]
  have hlen:([g.2.1]++((b.2.2.2.2.1.take i).filter fun c=>!(c.2.2.1.contains g.1==c.2.2.2.1.contains g.1)).map (fun c=>c.2.1)).length≤1001:=by
   have h3:=dW (fun c:Cmp=>!(c.2.2.1.contains g.1==c.2.2.2.1.contains g.1)) (b.2.2.2.2.1.take i);rw[cY] at h3;simp only[cI,dE,dH];omega
  rw[Ó (by simp only[dH]; omega),Am.iff_true]
  cases h:(c.2.2.1.contains g.1==c.2.2.2.1.contains g.1) with
  |true=>simp only[dz,é,dS,h,cV,if_false,eM,fk,df]
  |false=>simp only[ff,jg,dS,h,if_true,eM,eE,fk,cP]
 ·try dsimp only
  unfold uY;rw[â,List.take_length];refine ġ b.2.2.2.2.2 (fun i=>[g.2.1]++(b.2.2.2.2.1.filter fun c=>!(c.2.2.1.contains g.1==c.2.2.2.1.contains g.1)).map (fun c=>c.2.1)++((b.2.2.2.2.2.take i).filter fun n=>n.1==g.1).map (fun n=>n.2)) _ (by simp) (fun i n hi hn kn=>?_) (fun kn=>?_)
  ·try dsimp only
   unfold uX;rw[Ò hi,É hn,Ë hi (by omega),Ë hi (by omega),take_succ hn,List.filter_append,List.map_append]
   have hlen:([g.2.1]++(b.2.2.2.2.1.filter fun c=>!(c.2.2.1.contains g.1==c.2.2.2.1.contains g.1)).map (fun c=>c.2.1)++((b.2.2.2.2.2.take i).filter fun n=>n.1==g.1).map (fun n=>n.2)).length≤2001:=by
    have h3:=dW (fun c:Cmp=>!(c.2.2.1.contains g.1==c.2.2.2.1.contains g.1)) b.2.2.2.2.1;have h4:=dW (fun n:Int×Int=>n.1==g.1) (b.2.2.2.2.2.take i);rw[cY] at h4;simp only[cI,dE,dH];omega
   rw[Ó (by simp only[dH]; omega),Am.iff_true]
   cases h:(n.1==g.1) with
   |true =>
    have:ieq n.1 g.1=true:=h;simp[h,this]
   |false =>
    have:ieq n.1 g.1=false:=h;simp[h,this]
  ·try dsimp only
   unfold uX;rw[â,List.take_length];rw[show([g.2.1]++(b.2.2.2.2.1.filter fun c=>!(c.2.2.1.contains g.1==c.2.2.2.1.contains g.1)).map (fun c=>c.2.1)++(b.2.2.2.2.2.filter fun n=>n.1==g.1).map (fun n=>n.2))=UN b g from rfl];dsimp only;rw[Ó (by omega),Am.iff_true,Ó (by rw[Sr]; omega),Am.iff_true,abe];rfl
def Ú (b:ę):List (Int×Int):=b.2.1.flatMap fun g=>(è b g).map fun d=>((g.1,d):Int×Int)
def Lt {b:ę} (hs:tS b) (g:Ā):(è b g).length≤2001:=by
 unfold è;have:=HZ (UN b g);have:=UM hs g;omega
def BJ {α β:Type} (f:α→List β) (n:Nat) (h:∀a,(f a).length≤n):∀l:List α,(l.flatMap f).length≤l.length*n
 |[]=>by simp
 |a::l=>by
  have:=BJ f n h l;have:=h a;simp only[dD,cI,cS,di,fc];omega
def PD {b:ę} (hs:tS b):pK b=some (Ú b):=by
 unfold pK Ku;have hg:=hs.gauges
 have hlen:∀l:List Ā,(l.flatMap fun g=>(è b g).map fun d=>((g.1,d):Int×Int)).length≤l.length*2001:=fun l =>
  BJ _ 2001 (fun g=>by rw[dE]; exact Lt hs g) l
 refine ġ b.2.1 (fun i=>(b.2.1.take i).flatMap fun g=>(è b g).map fun d=>((g.1,d):Int×Int)) _ rfl (fun i g hi hg' kn=>?_) (fun kn=>?_)
 ·try dsimp only
  unfold qV;rw[Ò hi,É hg'];rw[show oD ((b.1.1,b.1.2),b.2.1,b.2.2.1,b.2.2.2.1,b.2.2.2.2.1,b.2.2.2.2.2) g=oD b g from rfl,acT hs,À];have hd:=Lt hs g;have hi2:=hlen (b.2.1.take i)
  have htl:(b.2.1.take i).length≤1000:=by rw[cY]; omega
  refine ġ (è b g) (fun j=>((b.2.1.take i).flatMap fun g=>(è b g).map fun d=>((g.1,d):Int×Int))++((è b g).take j).map fun d=>((g.1,d):Int×Int)) _ (by simp) (fun j d hj hd' kn'=>?_) (fun kn'=>?_)
  ·try dsimp only
   unfold qU;rw[Ò hj,É hd',Ë hj (by omega),take_succ hd',List.map_append];rw[Ó (by simp only[List.length_append,List.length_map,List.length_take,List.length_singleton]; omega),Am.iff_true];simp
  ·try dsimp only
   unfold qU;rw[â,List.take_length];dsimp only;rw[Ë hi (by omega),take_succ hg',List.flatMap_append];simp
 ·try dsimp only
  unfold qV;rw[â,List.take_length];rfl
def Gq (b:ę) (s:List (Int×Ā)):List Int :=
 b.2.2.1.map (fun u=>aaU s u.1 u.2)++(b.2.2.2.1.mapIdx (fun i l=>Q5 b s i l)++(b.2.2.2.2.1.mapIdx (fun i c=>oE b s i c)++b.2.2.2.2.2.map (fun u=>aaU s u.1 u.2)))
def Tm {α:Type} {f:Int→Option Int} {g:Nat→α→Int} (l:List α) (h:∀(i:Nat) (a:α),l[i]?=some a→f i=some (g i a)):Jb f (wn l.length)=some (l.mapIdx g):=by
 have h1:∀i,i<l.length→f (i:Int)=some ((l.mapIdx g)[i]?.getD 0):=by
  intro i hi;rw[h i l[i] (cE hi)];simp[hi]
 have h2:∀x∈wn l.length,f x=some ((l.mapIdx g)[x.toNat]?.getD 0):=by
  intro x hx;unfold wn at hx;obtain⟨i,hi,rfl⟩:=List.mem_map.1 hx;rw[h1 i (by simpa using hi)];rfl
 rw[Cm h2];congr 1;refine List.ext_getElem (by simp[wn]) fun i h3 h4=>?_
 have h5:i<l.length:=by simpa using h4
 simp[wn,h5]
def aeo {b:ę} (hs:tS b) (s:List (Int×Ā)):nB b s=some (Gq b s):=by
 unfold nB Gq
 rw[Cm (fun u _=>SO s u.1 u.2),À,Tm b.2.2.2.1 (fun i l hl=>UW hs.loans hs.uses s hl),À,
  Tm b.2.2.2.2.1 (fun i c hc=>LA hs.compares hs.loans s (hs.piles c (cN hc)).1 (hs.piles c (cN hc)).2 hc),À,Cm (fun u _=>SO s u.1 u.2),À]
def Ř (b:ę):Int :=
 if !oe b.1 0 1000000 then 1 else
 if 12<b.2.1.length then 2 else if 40<b.2.2.1.length then 2 else if 12<b.2.2.2.1.length then 2 else if 40<b.2.2.2.2.1.length then 2 else if 10<b.2.2.2.2.2.length then 2 else
 if nY b != 0 then nY b else
 match (Gq b (iE b)).find? (fun e=>e != 0) with
 |some e=>e
 |none=>if 59<(Ú b).length then 2 else if 300<2*b.2.1.length+2*((Ú b).length-b.2.1.length:Int)+2*b.2.2.2.2.1.length then 2 else 0
def N9 {b:ę} (hs:tS b):(Ú b).length≤2001000:=by
 have:=BJ (fun g:Ā=>(è b g).map fun d=>((g.1,d):Int×Int)) 2001 (fun g=>by rw[List.length_map]; exact Lt hs g) b.2.1;have h2:=hs.gauges;unfold Ú;omega
def rB {b:ę} (hs:tS b) (hr:∀g∈b.2.1,I64 g.2.2.2.2.1.1):ī b=some (Ř b):=by
 unfold ī KL Ř;rw[DM,À]
 cases oe b.1 0 1000000 with
 |false=>rfl
 |true =>
 have h1:=hs.gauges;have h2:=hs.compares;have h3:=N9 hs;rw[Î (show(!true)=false from rfl),if_neg (by simp)];simp only[Ñ]
 by_cases c0:12<b.2.1.length
 ·rw[Ù (by simp[igt]; omega),if_pos c0]
 rw[Î (by simp[igt]; omega),if_neg c0]
 by_cases c1:40<b.2.2.1.length
 ·rw[Ù (by simp[igt]; omega),if_pos c1]
 rw[Î (by simp[igt]; omega),if_neg c1]
 by_cases c2:12<b.2.2.2.1.length
 ·rw[Ù (by simp[igt]; omega),if_pos c2]
 rw[Î (by simp[igt]; omega),if_neg c2]
 by_cases c3:40<b.2.2.2.2.1.length
 ·rw[Ù (by simp[igt]; omega),if_pos c3]
 rw[Î (by simp[igt]; omega),if_neg c3]
 by_cases c4:10<b.2.2.2.2.2.length
 ·rw[Ù (by simp[igt]; omega),if_pos c4]
 rw[Î (by simp[igt]; omega),if_neg c4];rw[NE hr h1,À]
 cases hm:(nY b != 0) with
 |true =>
  have:ine (nY b) 0=true:=hm;rw[Ù this,if_pos rfl]
 |false =>
 have:ine (nY b) 0=false:=hm;rw[Î this,if_neg (by simp)];rw[EB h1,À];unfold SG;rw[aeo hs,À]
 cases(Gq b (iE b)).find? (fun e=>e != 0) with
 |some e=>rfl
 |none =>
 dsimp only;rw[PD hs,À]
 by_cases c5:59<(Ú b).length
 ·rw[Ù (by simp[igt]; omega),if_pos c5]
 rw[Î (by simp[igt]; omega),if_neg c5];rw[Ô (by omega) (by omega),Ô (by omega) (by omega),Ô (by omega) (by omega),Ô (by omega) (by omega),Ô (by omega) (by omega),Ô (by omega) (by omega)]
 by_cases c6:300<2*b.2.1.length+2*((Ú b).length-b.2.1.length:Int)+2*b.2.2.2.2.1.length
 ·rw[Ù (by simp[igt]; omega),if_pos c6]
 rw[Î (by simp[igt]; omega),if_neg c6]
def wrapU {n:Nat} (h:n<18446744073709551616):IntKind.wrap .u64 (n:Int)=n:=by
 simp only[IntKind.wrap,IntKind.bits,IntKind.signed];simp;omega
def aaK {n:Nat} (h:n<9223372036854775808):IntKind.wrap .i64 (n:Int)=n:=by
 simp only[IntKind.wrap,IntKind.bits,IntKind.signed];simp;omega
def jx (l:List (Int×Int)) (x d:Int):Option Nat:=l.findIdx? fun n=>decide (x=n.1)&&decide (d=n.2)
def Vh {l:List (Int×Int)} (hn:l.length≤100000000) (x d:Int):ó l (x,d)=some (match jx l x d with|some j=>(j:Int)|none=>-1):=by
 unfold ó Ŷ;refine Eq.trans (iX l (fun n=>decide (x=n.1)&&decide (d=n.2)) some (some (-1)) (fun i a hi ha kn=>?_) (fun kn=>?_)) ?_
 ·try dsimp only
  unfold Ĥ;rw[Ò hi,É ha,Ë hi (by omega),Č,Bool.and_true]
 ·try dsimp only
  unfold Ĥ;rw[â]
 ·unfold jx
  cases List.findIdx? (fun n=>decide (x=n.1)&&decide (d=n.2)) l<;>rfl
def atP (l:List (Int×Int)) (p:List Int) (d:Int):Int :=
 match p with
 |[]=>0
 |x::_=>match jx l x d with|some j=>(j:Int)+1|none=>0
def kg {l:List (Int×Int)} {x d:Int} {j:Nat} (h:jx l x d=some j):j<l.length∧l[j]?=some (x,d):=by
 unfold jx at h;obtain⟨hj,hp,_⟩:=List.findIdx?_eq_some_iff_getElem.1 h;refine⟨hj,?_⟩;rw[List.getElem?_eq_getElem hj];simp only[Bool.and_eq_true,decide_eq_true_eq] at hp;congr 1;exact Prod.ext hp.1.symm hp.2.symm
def ahi (m:Maker) (p:List Int) (d:Int) (hn:m.2.1.length≤100000000):kq m p d=some (atP m.2.1 p d):=by
 unfold kq xI atP
 cases p with
 |nil=>simp[Ñ,ieq]
 |cons x p =>
  have h:ieq (Ø (x::p)) 0=false:=by
   rw[Ñ];simp only[ieq,cS,beq_eq_false_iff_ne,ne_eq];omega
  rw[h,é,show(0:Int)=((0:Nat):Int) from rfl,É (a:=x) rfl,Vh hn,À]
  cases hx:jx m.2.1 x d with
  |none=>dsimp only; rw[Ô (by omega) (by omega)]; simp only[hx]; rfl
  |some j =>
   have:=(kg hx).1;dsimp only;rw[Ô (by omega) (by omega)];simp only[hx]
def Mb (s:List (Int×Ā)) (p:List Int):Int×Int :=
 match p with
 |[]=>(0,1)
 |x::_=>match qm (k:=tI) (v:=Õ) x s with
  |some g=>g.2.2.2.2.1
  |none=>(0,0)
def SF (s:List (Int×Ā)) (p:List Int):iy s p=some (Mb s p):=by
 unfold iy nV Mb
 cases p with
 |nil=>simp[Ñ,ieq]
 |cons x p =>
  have h:ieq (Ø (x::p)) 0=false:=by
   rw[Ñ];simp only[ieq,cS,beq_eq_false_iff_ne,ne_eq];omega
  rw[h,é,show(0:Int)=((0:Nat):Int) from rfl,É (a:=x) rfl]
  cases hx:qm (k:=tI) (v:=Õ) x s with
  |none=>simp only[L5,hx]
  |some g=>simp only[L5,hx]
def XE {l:List (Int×Int)} (hr:∀r∈l,I64 r.1) (hn:l.length≤1000):jK l=some (if l.any (fun r=>!Mc r) then 1 else 0):=by
 unfold jK Kb;refine Eq.trans (ũ l (fun r=>!Mc r) (fun _=>some 1) (some 1) (some 0) (fun _=>rfl) (fun i a hi ha kn=>?_) (fun kn=>?_)) ?_
 ·try dsimp only
  unfold qS;rw[Ò hi,É ha,RT (hr a (List.mem_of_getElem? ha)),À,Ë hi (by omega),Č]
 ·try dsimp only
  unfold qS;rw[â]
 ·cases l.any (fun r=>!Mc r)<;>rfl
def vE (n d:Int):Int×Int:=(n / (Nat.gcd n.natAbs d.natAbs:Nat),d / (Nat.gcd n.natAbs d.natAbs:Nat))
def oh (r:Int×Int):Mc r=true↔1≤r.2∧r.2≤2147483647∧(r.1.natAbs:Int)≤2147483647∧Nat.gcd r.1.natAbs r.2.natAbs=1:=by
 simp[Mc]
def Pn {n d:Int} (hd:0<d):∃g:Nat,0<g∧g=Nat.gcd n.natAbs d.natAbs∧n=(vE n d).1*g∧d=(vE n d).2*g:=by
 have hg:0<Nat.gcd n.natAbs d.natAbs:=Nat.gcd_pos_of_pos_right _ (by omega);refine⟨_,hg,rfl,?_,?_⟩
 ·exact(Int.ediv_mul_cancel (Int.ofNat_dvd_left.2 (Nat.gcd_dvd_left _ _))).symm
 ·exact(Int.ediv_mul_cancel (Int.ofNat_dvd_left.2 (Nat.gcd_dvd_right _ _))).symm
def VK {n d:Int} (hd:0<d) (hn:n.natAbs≤2147483647) (hd2:d≤2147483647):Mc (vE n d)=true:=by
 obtain⟨g,h0,hg,h1,h2⟩:=Pn (n:=n) hd;rw[oh]
 have a1:n.natAbs=(vE n d).1.natAbs*g:=by conv=>lhs; rw[h1]; rw[fE,fG]
 have a2:d.natAbs=(vE n d).2.natAbs*g:=by conv=>lhs; rw[h2]; rw[fE,fG]
 have p2:0<(vE n d).2:=by
  rcases Int.lt_trichotomy (vE n d).2 0 with h|h|h
  ·have:=Int.mul_neg_of_neg_of_pos h (show(0:Int)<g by omega); omega
  ·rw[h] at h2; simp at h2; omega
  ·exact h
 have b1:(vE n d).1.natAbs≤n.natAbs:=by rw[a1]; exact fU _ h0
 have b2:(vE n d).2.natAbs≤d.natAbs:=by rw[a2]; exact fU _ h0
 refine⟨by omega,by omega,by omega,?_⟩;have:=Nat.gcd_mul_right (vE n d).1.natAbs g (vE n d).2.natAbs;rw[←a1,←a2,←hg] at this
 have h3:(Nat.gcd (vE n d).1.natAbs (vE n d).2.natAbs)*g=1*g:=by omega
 exact Nat.eq_of_mul_eq_mul_right h0 h3
def NU {n d:Int} (hd:0<d) (hn:n.natAbs≤2147483647) (hd2:d≤2147483647):pJ n d=some (vE n d,0):=by
 obtain⟨g,h0,hg,h1,h2⟩:=Pn (n:=n) hd;have hr:=(oh _).1 (VK hd hn hd2);unfold pJ Bn;rw[Pj ⟨by omega,by omega⟩,À,Pj ⟨by omega,by omega⟩,À,afU,À,←hg]
 have a1:n.natAbs=(vE n d).1.natAbs*g:=by conv=>lhs; rw[h1]; rw[fE,fG]
 have a2:d.natAbs=(vE n d).2.natAbs*g:=by conv=>lhs; rw[h2]; rw[fE,fG]
 have q1:Int.tdiv (n.natAbs:Int) (g:Int)=((vE n d).1.natAbs:Int):=by
  rw[a1,gQ]; exact Int.mul_tdiv_cancel _ (by omega)
 have q2:Int.tdiv (d.natAbs:Int) (g:Int)=((vE n d).2.natAbs:Int):=by
  rw[a2,gQ]; exact Int.mul_tdiv_cancel _ (by omega)
 have z:AB (g:Int) 0=false:=by simp[AB]; omega
 have g1:igt ((vE n d).1.natAbs:Int) 2147483647=false:=by simp[igt]; omega
 have g2:igt ((vE n d).2.natAbs:Int) 2147483647=false:=by simp[igt]; omega
 rw[Î z,Î z,q1,q2,wrapU (by omega),wrapU (by omega),aaK (by omega),aaK (by omega),Î g1,Î g2]
 have hd0:ilt d 0=false:=by simp[ilt]; omega
 rw[hd0]
 have e2:((vE n d).2.natAbs:Int)=(vE n d).2:=by omega
 rw[e2]
 by_cases hneg:n<0
 ·have hn0:ilt n 0=true:=by simp[ilt,hneg]
  have:(vE n d).1≤0:=by
   rcases gA 0 (vE n d).1 with h|h
   ·have:=Int.mul_pos h (show(0:Int)<g by omega); omega
   ·exact h
  rw[hn0];rw[show(!true==false)=true from rfl,jg,Ô (by omega) (by omega)]
  have:0-((vE n d).1.natAbs:Int)=(vE n d).1:=by omega
  rw[this]
 ·have hn0:ilt n 0=false:=by simp[ilt]; omega
  have:0≤(vE n d).1:=by
   rcases gA (vE n d).1 0 with h|h
   ·have:=Int.mul_neg_of_neg_of_pos h (show(0:Int)<g by omega); omega
   ·exact h
  rw[hn0];rw[show(!false==false)=false from rfl,é]
  have:((vE n d).1.natAbs:Int)=(vE n d).1:=by omega
  rw[this]
structure yl (r:Int×Int) (n d:Int):Prop where
 rat:Mc r=true
 num : -n≤r.1∧r.1≤n
 den:r.2≤d
def yl.pos {r:Int×Int} {n d:Int} (h:yl r n d):1≤r.2:=((oh r).1 h.rat).1
def yl.i64 {r:Int×Int} {n d:Int} (h:yl r n d):I64 r.1:=by
 have:=((oh r).1 h.rat).2.2.1;exact⟨by omega,by omega⟩
def aaS {x y:Int×Int} (hx:Mc x=true) (hy:Mc y=true):jK [x,y]=some 0:=by
 rw[XE]
 ·simp[hx,hy]
 ·intro r hr
  have:Mc r=true:=by simp at hr; rcases hr with rfl|rfl<;>assumption
  have:=((oh r).1 this).2.2.1;exact⟨by omega,by omega⟩
 ·simp
def ql {a b m n:Int} (h1 : -m≤a∧a≤m) (h2 : -n≤b∧b≤n) : -(m*n)≤a*b∧a*b≤m*n:=by
 have hm:0≤m:=by omega
 have hn:0≤n:=by omega
 have h3:(a*b).natAbs≤(m*n).natAbs:=by
  rw[fE,fE];exact fP (by omega) (by omega)
 have h4:0≤m*n:=gG hm hn;omega
def subP (x y:Int×Int):Int×Int:=vE (x.1*y.2-y.1*x.2) (x.2*y.2)
def NM {x y:Int×Int} (hx:yl x 1000 100) (hy:yl y 1000 100):(x.1*y.2-y.1*x.2).natAbs≤200000∧0<x.2*y.2∧x.2*y.2≤10000:=by
 have h1:=ql hx.num (show -100≤y.2∧y.2≤100 from⟨by have:=hy.pos; omega,hy.den⟩);have h2:=ql hy.num (show -100≤x.2∧x.2≤100 from⟨by have:=hx.pos; omega,hx.den⟩);have h3:=ql (show -100≤x.2∧x.2≤100 from⟨by have:=hx.pos; omega,hx.den⟩) (show -100≤y.2∧y.2≤100 from⟨by have:=hy.pos; omega,hy.den⟩);have h4:=Int.mul_pos (show 0<x.2 by have:=hx.pos; omega) (show 0<y.2 by have:=hy.pos; omega);refine⟨by omega,h4,by omega⟩
def Sub_ok {x y:Int×Int} (hx:yl x 1000 100) (hy:yl y 1000 100):Rr x y=some (subP x y,0):=by
 obtain⟨b1,b2,b3⟩:=NM hx hy;have h1:=ql hx.num (show -100≤y.2∧y.2≤100 from⟨by have:=hy.pos; omega,hy.den⟩);have h2:=ql hy.num (show -100≤x.2∧x.2≤100 from⟨by have:=hx.pos; omega,hx.den⟩);unfold Rr Wz;rw[aaS hx.rat hy.rat,À];rw[show ine (0:Int) 0=false from rfl,é,Ô (by omega) (by omega),Ô (by omega) (by omega),Ô (by omega) (by omega),Ô (by omega) (by omega),NU b2 (by omega) (by omega),À];rfl
def abl {n d:Int} (hd:0<d):(vE n d).1.natAbs≤n.natAbs∧(vE n d).2≤d:=by
 obtain⟨g,h0,hg,h1,h2⟩:=Pn (n:=n) hd
 have a1:n.natAbs=(vE n d).1.natAbs*g:=by conv=>lhs; rw[h1]; rw[fE,fG]
 have a2:d.natAbs=(vE n d).2.natAbs*g:=by conv=>lhs; rw[h2]; rw[fE,fG]
 have b1:(vE n d).1.natAbs≤n.natAbs:=by rw[a1]; exact fU _ h0
 have b2:(vE n d).2.natAbs≤d.natAbs:=by rw[a2]; exact fU _ h0
 exact⟨b1,by omega⟩
def Vx {x y:Int×Int} (hx:yl x 1000 100) (hy:yl y 1000 100):yl (subP x y) 200000 10000:=by
 obtain⟨b1,b2,b3⟩:=NM hx hy;obtain⟨c1,c2⟩:=abl (n:=x.1*y.2-y.1*x.2) b2;exact⟨VK b2 (by omega) (by omega),by unfold subP; omega,by unfold subP; omega⟩
def aaC (k:Int×Int) (n:Int):Int×Int:=vE (k.1*n) k.2
def Od {k:Int×Int} (hk:yl k 200000 10000) {n:Int} (hn : -10000≤n∧n≤10000):(k.1*n).natAbs≤2000000000:=by
 have:=ql hk.num hn;omega
def WQ {n:Int} (hn : -10000≤n∧n≤10000):Mc (n,1)=true:=by
 rw[oh];exact⟨by simp,by simp,by simp; omega,by simp⟩
def af6 {k:Int×Int} (hk:yl k 200000 10000) {n:Int} (hn : -10000≤n∧n≤10000):Ln k (n,1)=some (aaC k n,0):=by
 have b:=Od hk hn;have p:=hk.pos;have q:=hk.den;unfold Ln WE;rw[aaS hk.rat (WQ hn),À];rw[show ine (0:Int) 0=false from rfl,é,Ô (by simp only; omega) (by simp only; omega),Int.mul_one,Ô (by omega) (by omega),NU (by omega) (by simp only; omega) (by omega),À];rfl
def PH {k:Int×Int} (hk:yl k 200000 10000) {n:Int} (hn : -10000≤n∧n≤10000):yl (aaC k n) 2000000000 10000:=by
 have b:=Od hk hn;have p:=hk.pos;have q:=hk.den;obtain⟨c1,c2⟩:=abl (n:=k.1*n) (show 0<k.2 by omega);exact⟨VK (by omega) (by omega) (by omega),by unfold aaC; omega,by unfold aaC; omega⟩
def cmpP (x y:Int×Int):Int:=if x=y then 0 else if x.1*y.2<y.1*x.2 then -1 else if y.1*x.2<x.1*y.2 then 1 else 0
def afZ {x y:Int×Int} {m d:Int} (hx:yl x m d) (hy:yl y m d) (hm:m≤2000000000) (hd:d≤10000):Ll x y=some (cmpP x y):=by
 have h1:=ql hx.num (show -d≤y.2∧y.2≤d from⟨by have:=hy.pos; have:=hy.den; omega,hy.den⟩);have h2:=ql hy.num (show -d≤x.2∧x.2≤d from⟨by have:=hx.pos; have:=hx.den; omega,hx.den⟩);have h0:0≤m∧0≤d:=⟨by have:=hx.num; omega,by have:=hx.pos; have:=hx.den; omega⟩;have h3:m*d≤2000000000*10000:=Int.mul_le_mul hm hd h0.2 (by omega);unfold Ll Ww cmpP;rw[Ô (by omega) (by omega),Ô (by omega) (by omega)];simp only[Č,Bool.and_true,Bool.and_eq_true,decide_eq_true_eq,AB,ilt,igt,gt_iff_lt];have:(x.1=y.1∧x.2=y.2)↔x=y:=⟨fun h=>Prod.ext h.1 h.2,fun h=>by rw[h]; exact⟨rfl,rfl⟩⟩;simp only[this]
 (repeat' split)<;>rfl
def Zy (k:Int×Int) (heat:Int×Int):(Int×Int)×(Int×Int) :=
 if 0<cmpP (aaC k heat.1) (aaC k heat.2) then(aaC k heat.2,aaC k heat.1) else(aaC k heat.1,aaC k heat.2)
def agA {k heat:Int×Int} (hk:yl k 200000 10000) (hh:oe heat (-10000) 10000=true):oC k heat=some (Zy k heat):=by
 simp only[oe,Bool.and_eq_true,decide_eq_true_eq] at hh;obtain⟨h1,h2,h3⟩:=hh;have n1 : -10000≤heat.1∧heat.1≤10000:=⟨by omega,by omega⟩;have n2 : -10000≤heat.2∧heat.2≤10000:=⟨by omega,by omega⟩;have r1:yl (heat.1,1) 10000 10000:=⟨WQ n1,n1,by simp⟩;have r2:yl (heat.2,1) 10000 10000:=⟨WQ n2,n2,by simp⟩;unfold oC uO Lm Kk sc rP;rw[aaS r1.rat r2.rat,À];have:ieq 0 0=true:=rfl;rw[Ù this,afZ r1 r2 (by omega) (by omega),À]
 have hc:ile (cmpP (heat.1,1) (heat.2,1)) 0=true:=by
  unfold cmpP;simp only[ile,decide_eq_true_eq,Int.mul_one]
  split
  ·omega
  ·split
   ·omega
   ·rw[if_neg (by omega)]; omega
 rw[hc,À];simp only[Bool.not_true,é];rw[RT hk.i64,hk.rat,À];simp only[Bool.not_true,é];rw[af6 hk n1,À,af6 hk n2,À];simp only[show ine (0:Int) 0=false from rfl,é];rw[afZ (PH hk n1) (PH hk n2) (by omega) (by omega),À];unfold Zy;rw[Č]
 by_cases h:0<cmpP (aaC k heat.1) (aaC k heat.2)
 ·rw[if_pos h,if_pos (by simpa[igt] using h)]; rfl
 ·rw[if_neg h,if_neg (by simpa[igt] using h)]; rfl
def rateK (s:List (Int×Ā)) (c:Cmp):Int×Int:=subP (Mb s (ÿ c.2.2.1 c.2.2.2.1)) (Mb s (ÿ c.2.2.2.1 c.2.2.1))
def rX (b:ę) (c:Cmp):(Int×Int)×(Int×Int):=Zy (rateK (iE b) c) c.2.2.2.2.2.2
def act {b:ę} (hs:tS b) {c:Cmp} (hA:c.2.2.1.length≤1000) (hB:c.2.2.2.1.length≤1000)
 (h1:yl (Mb (iE b) (ÿ c.2.2.1 c.2.2.2.1)) 1000 100) (h2:yl (Mb (iE b) (ÿ c.2.2.2.1 c.2.2.1)) 1000 100) (hh:oe c.2.2.2.2.2.2 (-10000) 10000=true):tM b c=some (rX b c):=by
 unfold tM FB;rw[EB hs.gauges,À,xP (by omega) (by omega),À,SF,À,xP (by omega) (by omega),À,SF,À];unfold vp uP;rw[Sub_ok h1 h2,À,À]
 try dsimp only
 rw[agA (Vx h1 h2) hh,À];rfl
def xU (b:ę) (c:Cmp):Int×Int :=
 (((c.2.2.1.length-1:Nat):Int)*b.1.1-((c.2.2.2.1.length-1:Nat):Int)*b.1.2,((c.2.2.1.length-1:Nat):Int)*b.1.2-((c.2.2.2.1.length-1:Nat):Int)*b.1.1)
def aeV {b:ę} {c:Cmp} (hA:c.2.2.1.length≤1000) (hB:c.2.2.2.1.length≤1000) (h1:0≤b.1.1) (h2:b.1.1≤1000000) (h3:0≤b.1.2) (h4:b.1.2≤1000000):xX b c=some (xU b c):=by
 unfold xX KC xU
 have e:∀n:Nat,WU 0 ((n:Int)-1)=((n-1:Nat):Int):=by
  intro n;unfold WU
  split<;>omega
 have bd:∀(n:Nat) (x:Int),n≤1000→0≤x→x≤1000000→0≤((n-1:Nat):Int)*x∧((n-1:Nat):Int)*x≤1000000000:=by
  intro n x hn h0 hx;refine⟨gG (by omega) h0,?_⟩;have:=fQ (show((n-1:Nat):Int)≤1000 by omega) hx h0 (by omega);omega
 have b1:=bd _ _ hA h1 h2;have b2:=bd _ _ hA h3 h4;have b3:=bd _ _ hB h1 h2;have b4:=bd _ _ hB h3 h4;simp only[Ñ];rw[Ô (by omega) (by omega),Ô (by omega) (by omega)];simp only[e];rw[Ô (by omega) (by omega),Ô (by omega) (by omega),Ô (by omega) (by omega),Ô (by omega) (by omega),Ô (by omega) (by omega),Ô (by omega) (by omega)]
def YG {n d:Int} (hd:1≤d) (hn : -4000000000≤n∧n≤4000000000):xW n d=some (n / d):=by
 unfold xW Kh
 have z:AB d 0=false:=by simp[AB]; omega
 rw[Î z];have t:=Int.mul_tdiv_add_tmod n d
 have b1 : -4000000000≤Int.tdiv n d∧Int.tdiv n d≤4000000000:=by
  have:=Int.natAbs_tdiv_le_natAbs n d;omega
 rw[Ô (by omega) (by omega),Î z,Č]
 by_cases h:Int.tmod n d<0
 ·rw[if_pos (by simpa[ilt] using h),Ô (by omega) (by omega)];congr 1
  have h5 : -d<Int.tmod n d:=by
   have h6:=Int.natAbs_tmod n d;have h7:=Nat.mod_lt n.natAbs (show 0<d.natAbs by omega);omega
  refine(Int.ediv_eq_iff_of_pos (by omega)).2 ⟨?_,?_⟩ |>.symm
  ·rw[Int.sub_mul,gM]; omega
  ·rw[Int.sub_mul,gM (Int.tdiv n d)]; omega
 ·rw[if_neg (by simpa[ilt] using h)];congr 1
  have h5:Int.tmod n d<d:=by
   have h6:=Int.natAbs_tmod n d;have h7:=Nat.mod_lt n.natAbs (show 0<d.natAbs by omega);omega
  refine(Int.ediv_eq_iff_of_pos (by omega)).2 ⟨?_,?_⟩ |>.symm
  ·rw[gM]; omega
  ·rw[gM (Int.tdiv n d)]; omega
def afG {x:Int×Int} (hx:Mc x=true):jK [x]=some 0:=by
 rw[XE]
 ·simp[hx]
 ·intro r hr
  have:Mc r=true:=by simp at hr; subst hr; assumption
  have:=((oh r).1 this).2.2.1;exact⟨by omega,by omega⟩
 ·simp
def aaj (r:Int×Int):Int:=-(-r.1 / r.2)
def afD {r:Int×Int} (h:Mc r=true):D9 r=some (r.1 / r.2,0):=by
 unfold D9 Km;have:=(oh r).1 h;rw[afG h,À];rw[show ine (0:Int) 0=false from rfl,é,YG (by omega) (by omega),À]
def F3 {n d:Int} (hd:1≤d):(n / d).natAbs≤n.natAbs:=by
 exact Int.natAbs_ediv_le_natAbs n d
def ahr {r:Int×Int} (h:Mc r=true):Io r=some (aaj r,0):=by
 unfold Io QC aaj;have:=(oh r).1 h;rw[afG h,À];rw[show ine (0:Int) 0=false from rfl,é,Ô (by omega) (by omega),YG (by omega) (by omega),À];have hb:=F3 (n:=0-r.1) (show 1≤r.2 by omega);rw[Ô (by omega) (by omega),Int.zero_sub,Int.zero_sub]
def sf (b:ę) (c:Cmp):Int×Int :=
 (c.2.2.2.2.1-c.2.2.2.2.2.1-(xU b c).2-(rX b c).2.1 / (rX b c).2.2,c.2.2.2.2.1+c.2.2.2.2.2.1-(xU b c).1-aaj (rX b c).1)
structure Φ (b:ę):Prop where
 film:0≤b.1.1∧b.1.1≤b.1.2∧b.1.2≤1000000
 nG:b.2.1.length≤12
 nU:b.2.2.1.length≤40
 nL:b.2.2.2.1.length≤12
 nC:b.2.2.2.2.1.length≤40
 nK:b.2.2.2.2.2.length≤10
 gauge:∀g∈b.2.1,Az g=true
 ids:b.2.1.Pairwise fun a b=>a.1<b.1
 uses:∀u∈b.2.2.1,aaU (iE b) u.1 u.2=0
 loans:∀i l,b.2.2.2.1[i]?=some l→Q5 b (iE b) i l=0
 compares:∀i c,b.2.2.2.2.1[i]?=some c→oE b (iE b) i c=0
 looks:∀u∈b.2.2.2.2.2,aaU (iE b) u.1 u.2=0
 nodes:(Ú b).length≤59
 links:2*(Ú b).length+2*b.2.2.2.2.1.length≤300
def KZ (b:ę):nY b=0↔(∀g∈b.2.1,Az g=true)∧b.2.1.Pairwise fun a b=>a.1<b.1:=by
 have h0:Ň (xS b.2.1) 0 b.2.1=none↔(∀g∈b.2.1,Az g=true)∧b.2.1.Pairwise fun a b=>a.1<b.1:=by
  rw[i5,←Iu (fun g:Ā=>g.1) b.2.1];constructor
  ·intro h
   have h1:∀(j:Nat) (a:Ā),b.2.1[j]?=some a→Az a=true∧tR (fun g:Ā=>g.1) b.2.1 j a=false:=by
    intro j a ha;have:=h j a ha;rw[Nat.zero_add] at this;unfold xS at this
    split at this
    ·cases this
    ·split at this
     ·cases this
     ·rename_i h1 h2;exact⟨by simpa using h1,by simpa using h2⟩
   refine⟨fun x hx=>?_,fun i a ha=>(h1 i a ha).2⟩;obtain⟨j,hj,rfl⟩:=cR.1 hx;exact(h1 j _ (cE hj)).1
  ·rintro⟨h1,h2⟩ j a ha;rw[du];simp[xS,h1 a (cN ha),h2 j a ha]
 rw[←h0];unfold nY
 cases h:Ň (xS b.2.1) 0 b.2.1 with
 |none=>simp
 |some e =>
  have:∀(m:List Ā) (j:Nat) (x:Int),Ň (xS b.2.1) j m=some x→x≠0:=by
   intro m
   induction m with
   |nil=>intro j x h; cases h
   |cons a m ih =>
    intro j x h;unfold Ň at h
    cases hp:xS b.2.1 j a with
    |none=>rw[hp] at h; exact ih _ _ h
    |some y =>
     rw[hp] at h;cases h;unfold xS at hp
     split at hp
     ·cases hp; omega
     ·split at hp
      ·cases hp; omega
      ·cases hp
  simp[this _ _ _ h]
def ś (b:ę):Ř b=0↔Φ b:=by
 unfold Ř;constructor
 ·intro h
  split at h
  ·omega
  rename_i h1
  (repeat' split at h)<;>try omega
  ·rename_i hg
   have hg':nY b≠0:=by simpa using hg
   exact(hg' h).elim
  ·rename_i hf;have:=fV hf;rename_i e;simp at this;exact(this h).elim
  ·rename_i hn1 hn2 hn3 hn4 hn5 hg e hf hn6 hn7
   have hg0:nY b=0:=by simpa using hg
   obtain⟨g1,g2⟩:=(KZ b).1 hg0
   have hall:∀x∈Gq b (iE b),x=0:=fun x hx=>by
    have:=d9.1 hf x hx;simpa using this
   simp only[Gq,cJ] at hall
   have hs:oe b.1 0 1000000=true:=by simpa using h1
   simp only[oe,cG,decide_eq_true_eq] at hs;refine⟨⟨hs.1,hs.2.1,hs.2.2⟩,by omega,by omega,by omega,by omega,by omega,g1,g2,fun u hu=>hall _ (.inl (dj.2 ⟨u,hu,rfl⟩)),fun i l hl=>?_,fun i c hc=>?_,fun u hu=>hall _ (.inr (.inr (.inr (dj.2 ⟨u,hu,rfl⟩)))),by omega,by omega⟩
   ·obtain⟨hi,rfl⟩:=cH.1 hl;exact hall _ (.inr (.inl (List.mem_mapIdx.2 ⟨i,hi,rfl⟩)))
   ·obtain⟨hi,rfl⟩:=cH.1 hc;exact hall _ (.inr (.inr (.inl (List.mem_mapIdx.2 ⟨i,hi,rfl⟩))))
 ·intro h
  have hs:oe b.1 0 1000000=true:=by simp[oe,h.film.1,h.film.2.1,h.film.2.2]
  have hg:nY b=0:=(KZ b).2 ⟨h.gauge,h.ids⟩
  have hall:(Gq b (iE b)).find? (fun e=>e != 0)=none:=by
   rw[d9];intro x hx;simp only[Gq,cJ,dj,List.mem_mapIdx] at hx
   have:x=0:=by
    rcases hx with⟨u,hu,rfl⟩|⟨i,hi,rfl⟩|⟨i,hi,rfl⟩|⟨u,hu,rfl⟩
    ·exact h.uses u hu
    ·exact h.loans i _ (cE hi)
    ·exact h.compares i _ (cE hi)
    ·exact h.looks u hu
   simp[this]
  have:=h.nG; have:=h.nU; have:=h.nL; have:=h.nC; have:=h.nK; have:=h.nodes; have:=h.links;rw[hs,hg,hall];simp only[dz,cV,if_false,bne_self_eq_false];rw[if_neg (by omega),if_neg (by omega),if_neg (by omega),if_neg (by omega),if_neg (by omega),if_neg (by omega),if_neg (by omega)]
section
variable {b:ę}
def jC {l:List Int} (h:wA l=true):l.length≤6:=((IR l).1 h).2.2
def Φ.nums (h:Φ b) {c:Cmp} (hc:c∈b.2.2.2.2.1):ZE c=true:=by
 obtain⟨i,hi,rfl⟩:=List.mem_iff_getElem.1 hc;have:=h.compares i _ (List.getElem?_eq_getElem hi);unfold oE at this
 split at this
 ·omega
 ·rename_i h; simpa using h
def Φ.pilesOf (h:Φ b) {c:Cmp} (hc:c∈b.2.2.2.2.1):wy b (iE b) c=0:=by
 obtain⟨i,hi,rfl⟩:=List.mem_iff_getElem.1 hc;have:=h.compares i _ (List.getElem?_eq_getElem hi);unfold oE at this
 split at this
 ·omega
 ·split at this
  ·omega
  ·exact this
def kG (c:Cmp):ZE c=true↔(1≤c.1∧c.1≤1099511627776)∧(0≤c.2.1∧c.2.1≤20000)∧(-1125899906842624≤c.2.2.2.2.1∧c.2.2.2.2.1≤1125899906842624)∧(0≤c.2.2.2.2.2.1∧c.2.2.2.2.2.1≤1073741824)∧oe c.2.2.2.2.2.2 (-10000) 10000=true∧wA c.2.2.1=true∧wA c.2.2.2.1=true:=by
 simp[ZE,inP,O0,and_assoc]
def Φ.size (h:Φ b):tS b:=by
 have h1:=h.nG; have h2:=h.nU; have h3:=h.nL; have h4:=h.nC; have h5:=h.nK;refine⟨by omega,by omega,by omega,by omega,by omega,fun c hc=>?_⟩;have:=(kG c).1 (h.nums hc);have a:=jC this.2.2.2.2.2.1;have b:=jC this.2.2.2.2.2.2;omega
def OP (g:Ā):Az g=true↔Mc g.2.2.2.2.1=true∧(-1000≤g.2.2.2.2.1.1∧g.2.2.2.2.1.1≤1000)∧g.2.2.2.2.1.2≤100∧(1≤g.1∧g.1≤1099511627776)∧(0≤g.2.1∧g.2.1≤20000)∧(1≤g.2.2.1∧g.2.2.1≤1125899906842624)∧(-1073741824≤g.2.2.2.1.1∧g.2.2.2.1.1≤g.2.2.2.1.2∧g.2.2.2.1.2≤1073741824)∧(0≤g.2.2.2.2.2∧g.2.2.2.2.2≤1048576):=by
 simp[Az,inP,O0,oe,and_assoc]
def iZ {id:Int} {g:Ā} (h:ċ b id=some g):g∈b.2.1∧g.1=id:=by
 unfold ċ at h;exact⟨List.mem_of_find?_eq_some h,by simpa using List.find?_some h⟩
def vl (hi:b.2.1.Pairwise fun a b=>a.1<b.1) {g:Ā} (hg:g∈b.2.1):ċ b g.1=some g:=by
 unfold ċ
 induction hl:b.2.1 generalizing b with
 |nil=>rw[hl] at hg; cases hg
 |cons a t ih =>
  rw[hl] at hg hi;rw[dv] at hi;rw[fJ];rcases cM.1 hg with rfl|hg
  ·simp
  ·have h1:=hi.1 g hg
   have:(a.1==g.1)=false:=by simp; omega
   rw[this];have:=ih (b:=(b.1,t,b.2.2)) hi.2 hg rfl;exact this
def EL (h:Φ b) {id day:Int} (hm:mP (iE b) id day=0):∃g,ċ b id=some g∧g.2.1≤day:=by
 unfold mP at hm;rw[yr h.ids] at hm
 split at hm
 ·rename_i g hg
  split at hm
  ·omega
  ·exact⟨g,hg,by omega⟩
 ·omega
def Jd (s:List (Int×Ā)) (id day:Int):mP s id day=0∨mP s id day=4∨mP s id day=5:=by
 unfold mP
 split
 ·split<;>simp
 ·simp
def Φ.pile (h:Φ b) {c:Cmp} (hc:c∈b.2.2.2.2.1) {x:Int} (hx:x∈c.2.2.1++c.2.2.2.1):(∃g,ċ b x=some g∧g.2.1≤c.2.1)∧lG b x c.2.1=none:=by
 have hp:=h.pilesOf hc;unfold wy at hp
 split at hp
 ·omega
 rename_i h5
 split at hp
 ·omega
 rename_i h4
 split at hp
 ·omega
 rename_i h9;have a5:=(dM.1 (d8.2 h5)) x hx;have a4:=(dM.1 (d8.2 h4)) x hx;have a9:=(dM.1 (d8.2 h9)) x hx;simp at a5 a4 a9;refine⟨EL h ?_,a9⟩;rcases Jd (iE b) x c.2.1 with h0|h0|h0
 ·exact h0
 ·exact(a4 h0).elim
 ·exact(a5 h0).elim
def Φ.lefts (h:Φ b) {c:Cmp} (hc:c∈b.2.2.2.2.1):(ÿ c.2.2.1 c.2.2.2.1).length≤1∧(ÿ c.2.2.2.1 c.2.2.1).length≤1∧(ÿ c.2.2.1 c.2.2.2.1).length+(ÿ c.2.2.2.1 c.2.2.1).length≠0:=by
 have hp:=h.pilesOf hc;unfold wy at hp
 (repeat' split at hp)<;>first|omega|exact⟨by omega,by omega,by omega⟩
def nA {a c:List Int} {x:Int}:x∈ÿ a c↔x∈a∧x∉c:=by
 simp[ÿ]
def Φ.rate (h:Φ b) {p:List Int} (hp:∀x∈p,∃g,ċ b x=some g):yl (Mb (iE b) p) 1000 100:=by
 unfold Mb
 cases p with
 |nil =>
  have:yl (0,1) 1000 100:=⟨by decide,by decide,by decide⟩;exact this
 |cons x t =>
  obtain⟨g,hg⟩:=hp x (by simp)
  try dsimp only
  rw[yr h.ids,hg];have:=(OP g).1 (h.gauge g (iZ hg).1);exact⟨this.1,this.2.1,this.2.2.1⟩
def Φ.rates (h:Φ b) {c:Cmp} (hc:c∈b.2.2.2.2.1):yl (Mb (iE b) (ÿ c.2.2.1 c.2.2.2.1)) 1000 100∧yl (Mb (iE b) (ÿ c.2.2.2.1 c.2.2.1)) 1000 100:=by
 constructor
 ·exact h.rate fun x hx=>by
   obtain⟨⟨g,hg,_⟩,_⟩:=h.pile hc (dA _ (nA.1 hx).1);exact⟨g,hg⟩
 ·exact h.rate fun x hx=>by
   obtain⟨⟨g,hg,_⟩,_⟩:=h.pile hc (dw _ (nA.1 hx).1);exact⟨g,hg⟩
def Φ.growth (h:Φ b) {c:Cmp} (hc:c∈b.2.2.2.2.1):tM b c=some (rX b c):=by
 obtain⟨r1,r2⟩:=h.rates hc;have hn:=(kG c).1 (h.nums hc);have a:=jC hn.2.2.2.2.2.1;have b:=jC hn.2.2.2.2.2.2;exact act h.size (by omega) (by omega) r1 r2 hn.2.2.2.2.1
def Φ.films (h:Φ b) {c:Cmp} (hA:c.2.2.1.length≤1000) (hB:c.2.2.2.1.length≤1000):xX b c=some (xU b c):=by
 have:=h.film;exact aeV hA hB (by omega) (by omega) (by omega) (by omega)
def Ye {k heat:Int×Int} (hk:yl k 200000 10000) (hh:oe heat (-10000) 10000=true):yl (Zy k heat).1 2000000000 10000∧yl (Zy k heat).2 2000000000 10000:=by
 simp only[oe,Bool.and_eq_true,decide_eq_true_eq] at hh;have r1:=PH hk (n:=heat.1) ⟨by omega,by omega⟩;have r2:=PH hk (n:=heat.2) ⟨by omega,by omega⟩;unfold Zy
 split
 ·exact⟨r2,r1⟩
 ·exact⟨r1,r2⟩
def Lg {c:Cmp} (hA:c.2.2.1.length≤1000) (hB:c.2.2.2.1.length≤1000) (h1:0≤b.1.1) (h2:b.1.1≤1000000) (h3:0≤b.1.2) (h4:b.1.2≤1000000) :
 (-1000000000≤(xU b c).1∧(xU b c).1≤1000000000)∧(-1000000000≤(xU b c).2∧(xU b c).2≤1000000000):=by
 have bd:∀(n:Nat) (x:Int),n≤1000→0≤x→x≤1000000→0≤((n-1:Nat):Int)*x∧((n-1:Nat):Int)*x≤1000000000:=by
  intro n x hn h0 hx;refine⟨gG (by omega) h0,?_⟩;have:=fQ (show((n-1:Nat):Int)≤1000 by omega) hx h0 (by omega);omega
 have b1:=bd _ _ hA h1 h2;have b2:=bd _ _ hA h3 h4;have b3:=bd _ _ hB h1 h2;have b4:=bd _ _ hB h3 h4;unfold xU
 try dsimp only
 omega
def Ld {r:Int×Int} (h:yl r 2000000000 10000) : -2000000000≤r.1 / r.2∧r.1 / r.2≤2000000000:=by
 have:=F3 (n:=r.1) h.pos;have:=h.num;omega
def O5 {r:Int×Int} (h:yl r 2000000000 10000) : -2000000000≤aaj r∧aaj r≤2000000000:=by
 have:=F3 (n:=-r.1) h.pos;have:=h.num;unfold aaj;omega
def Φ.says (h:Φ b) {c:Cmp} (hc:c∈b.2.2.2.2.1):yN b c=some (sf b c):=by
 obtain⟨r1,r2⟩:=h.rates hc;have hn:=(kG c).1 (h.nums hc);have ha:=jC hn.2.2.2.2.2.1;have hb:=jC hn.2.2.2.2.2.2;have hf:=h.film;obtain⟨g1,g2⟩:=Ye (Vx r1 r2) hn.2.2.2.2.1;have fb:=Lg (b:=b) (c:=c) (by omega) (by omega) (by omega) (by omega) (by omega) (by omega);have q1:yl (rX b c).1 2000000000 10000:=g1;have q2:yl (rX b c).2 2000000000 10000:=g2;have c1:=O5 q1;have c2:=Ld q2;unfold yN QE sf;rw[h.growth hc,À,h.films (by omega) (by omega),À,afD q2.rat,À,ahr q1.rat,À]
 try dsimp only
 have n3:=hn.2.2.1;have n4:=hn.2.2.2.1;rw[Ô (by omega) (by omega),Ô (by omega) (by omega),Ô (by omega) (by omega),Ô (by omega) (by omega),Ô (by omega) (by omega),Ô (by omega) (by omega)]
end
def Ė (l:L8) (f t:Int):Int:=min l.2.1.2 (t-1)-max l.2.1.1 f+1
def ķ (id f t:Int):List L8→Int
 |[]=>0
 |l::r=>(if l.1=id∧0<Ė l f t then Ė l f t*l.2.2 else 0)+ķ id f t r
def xN (id f t:Int):∀(x y:List L8),ķ id f t (x++y)=ķ id f t x+ķ id f t y
 |[],y=>by simp[ķ]
 |l::r,y=>by
  simp only[eO,ķ,xN id f t r y];omega
def g9 (b:ę) (id f t:Int):List Int:=(b.2.2.1.filter fun u=>u.1==id&&inP u.2 f (t-1)).map fun u=>u.2
def jH (b:ę) (g:Ā) (f t:Int):Int:=ķ g.1 f t b.2.2.2.1+(Vl (g9 b g.1 f t)).length*g.2.2.2.2.2
def WT (a c:Int):Yv a c=min a c:=by unfold Yv; split<;>omega
def acq (a c:Int):WU a c=max a c:=by unfold WU; split<;>omega
def tx {b:ę} (h:Φ b) {l:L8} (hl:l∈b.2.2.2.1):(0≤l.2.1.1∧l.2.1.1≤l.2.1.2∧l.2.1.2≤20000)∧(0≤l.2.2∧l.2.2≤1048576):=by
 obtain⟨i,hi,rfl⟩:=List.mem_iff_getElem.1 hl;have:=h.loans i _ (List.getElem?_eq_getElem hi);unfold Q5 at this
 split at this
 ·omega
 rename_i h1
 split at this
 ·omega
 rename_i h2;simp only[dZ,Bool.not_eq_false,oe,inP,cG,decide_eq_true_eq] at h1 h2;exact⟨h1,h2⟩
def OD {l:L8} (h:(0≤l.2.1.1∧l.2.1.1≤l.2.1.2∧l.2.1.2≤20000)∧(0≤l.2.2∧l.2.2≤1048576)) {f t:Int} (hf:0≤f) (hd:0<Ė l f t):0≤Ė l f t*l.2.2∧Ė l f t*l.2.2≤20001*1048576:=by
 refine⟨Int.mul_nonneg (by omega) h.2.1,Int.mul_le_mul ?_ h.2.2 h.2.1 (by omega)⟩;unfold Ė;omega
def rU {id f t:Int} (hf:0≤f):∀{x:List L8},(∀l∈x,(0≤l.2.1.1∧l.2.1.1≤l.2.1.2∧l.2.1.2≤20000)∧(0≤l.2.2∧l.2.2≤1048576))→0≤ķ id f t x∧ķ id f t x≤x.length*(20001*1048576)
 |[],_=>by simp[ķ]
 |l::r,h=>by
  have ih:=rU (id:=id) (t:=t) hf (x:=r) fun l hl=>h l (by simp[hl]);simp only[ķ,cS,gh,f5,gk]
  split
  ·rename_i hc;have:=OD (h l (by simp)) hf hc.2;omega
  ·omega
def agH {b:ę} (h:Φ b) {g:Ā} (hg:0≤g.2.2.2.2.2∧g.2.2.2.2.2≤1048576) {f t:Int} (hf:0≤f∧f≤100000) (ht:0≤t∧t≤100000):yO b g f t=some (jH b g f t):=by
 have hL:=h.nL;have hU:=h.nU
 have hlb:∀i,0≤ķ g.1 f t (b.2.2.2.1.take i)∧ķ g.1 f t (b.2.2.2.1.take i)≤12*(20001*1048576):=by
  intro i;have h1:=rU (id:=g.1) (t:=t) hf.1 (x:=b.2.2.2.1.take i) fun l hl=>tx h (fN hl);have h2:((b.2.2.2.1.take i).length:Int)*(20001*1048576)≤12*(20001*1048576):=fp (by rw[cY]; omega) (by omega);omega
 unfold yO QI;refine ĕ (fun x:Int×Int=>∃i:Nat,i≤b.2.2.2.1.length∧x=(ķ g.1 f t (b.2.2.2.1.take i),(i:Int))) (fun x=>b.2.2.2.1.length-x.2.toNat) ?_ ⟨0,by omega,rfl⟩;rintro x ⟨i,hi,rfl⟩;rcases Nat.lt_or_ge i b.2.2.2.1.length with hlt|hge
 ·have hl:b.2.2.2.1[i]?=some b.2.2.2.1[i]:=cE hlt;have hz:=tx h (cN hl);refine .inr ⟨(ķ g.1 f t (b.2.2.2.1.take (i+1)),(i:Int)+1),⟨i+1,hlt,by simp⟩,by simp; omega,fun kn=>?_⟩
  try dsimp only
  unfold uV;have b1:=hlb i;have b2:=hlb (i+1)
  have e1:ķ g.1 f t (b.2.2.2.1.take (i+1))=ķ g.1 f t (b.2.2.2.1.take i)+(if b.2.2.2.1[i].1=g.1∧0<Ė b.2.2.2.1[i] f t then Ė b.2.2.2.1[i] f t*b.2.2.2.1[i].2.2 else 0):=by
   rw[take_succ hl,xN]; simp[ķ]
  rw[Ò hlt,É hl,Ô (by omega) (by omega),WT,acq,Ô (by omega) (by omega),Ô (by omega) (by omega)];rw[show min b.2.2.2.1[i].2.1.2 (t-1)-max b.2.2.2.1[i].2.1.1 f+1=Ė b.2.2.2.1[i] f t from rfl,Č]
  by_cases hid:b.2.2.2.1[i].1=g.1
  ·rw[if_pos (by simpa[ieq] using hid),Č]
   by_cases hd:0<Ė b.2.2.2.1[i] f t
   ·have lb:=OD hz hf.1 hd;rw[if_pos ⟨hid,hd⟩] at e1;rw[if_pos (by simpa[igt] using hd),Ô (by omega) (by omega),Ô (by omega) (by omega),Ë hlt (by omega),e1]
   ·rw[if_neg (fun hc=>hd hc.2)] at e1;rw[if_neg (by simpa[igt] using hd),Ë hlt (by omega),e1,gE]
  ·rw[if_neg (fun hc=>hid hc.1)] at e1;rw[if_neg (by simpa[ieq] using hid),Ë hlt (by omega),e1,gE]
 ·refine .inl fun kn=>?_
  have:i=b.2.2.2.1.length:=by omega
  subst this
  try dsimp only
  unfold uV;rw[â,List.take_length]
  have hud:∀x:List (Int×Int),x.length≤40→((x.filter fun u=>u.1==g.1&&inP u.2 f (t-1)).map fun u=>u.2).length≤40:=by
   intro x hx;rw[dE];exact cW (dW _ _) hx
  refine ġ b.2.2.1 (fun i=>((b.2.2.1.take i).filter fun u=>u.1==g.1&&inP u.2 f (t-1)).map fun u=>u.2) _ rfl (fun i u hi hu kn'=>?_) (fun kn'=>?_)
  ·try dsimp only
   unfold uU;have hx:=hud (b.2.2.1.take i) (by rw[List.length_take]; omega);rw[Ò hi,É hu,Ô (by omega) (by omega),ζ,À,Ó (by simp only[List.length_singleton]; omega),Am.iff_true,Ë hi (by omega),Ë hi (by omega),take_succ hu,List.filter_append,List.map_append]
   cases h1:(u.1==g.1) with
   |false =>
    have:ieq u.1 g.1=false:=h1;simp only[this,é,dS,h1,Bool.false_and,cV,if_false,eM,fk,df]
   |true =>
    have:ieq u.1 g.1=true:=h1;rw[this]
    cases h2:inP u.2 f (t-1) with
    |false=>simp only[jg,é,dS,h1,h2,eh,cV,if_false,eM,fk,df]
    |true=>simp only[jg,dS,h1,h2,eh,if_true,eM,fk,eE]
  ·try dsimp only
   unfold uU;rw[â,List.take_length];rw[show((b.2.2.1.filter fun u=>u.1==g.1&&inP u.2 f (t-1)).map fun u=>u.2)=g9 b g.1 f t from rfl];have h40:(g9 b g.1 f t).length≤40:=hud _ hU
   have hc40:(Vl (g9 b g.1 f t)).length≤40:=by
    have:=HZ (g9 b g.1 f t);omega
   have hm:0≤((Vl (g9 b g.1 f t)).length:Int)*g.2.2.2.2.2∧((Vl (g9 b g.1 f t)).length:Int)*g.2.2.2.2.2≤40*1048576 :=
    ⟨gG (by omega) hg.1,fQ (by omega) hg.2 hg.1 (by omega)⟩
   have b1:=hlb b.2.2.2.1.length;rw[List.take_length] at b1;dsimp only;rw[Ó (by omega),Am.iff_true,Ó (by rw[Sr]; omega),Am.iff_true,abe,Ñ,Ô (by omega) (by omega),Ô (by omega) (by omega)];rfl
def Ő (b:ę) (g:Ā):List Lk :=
 [(0,atP (Ú b) [g.1] g.2.1,g.2.2.1+g.2.2.2.1.2),(atP (Ú b) [g.1] g.2.1,0,-(g.2.2.1+g.2.2.2.1.1))] ++
 (List.range ((è b g).length-1)).flatMap fun(k:Nat)=>[(atP (Ú b) [g.1] g.2.1+k,atP (Ú b) [g.1] g.2.1+k+1,0),(atP (Ú b) [g.1] g.2.1+k+1,atP (Ú b) [g.1] g.2.1+k,jH b g ((è b g)[k]?.getD 0) ((è b g)[k+1]?.getD 0))]
def cx (b:ę) (c:Cmp):Int:=atP (Ú b) (ÿ c.2.2.1 c.2.2.2.1) c.2.1
def cy (b:ę) (c:Cmp):Int:=atP (Ú b) (ÿ c.2.2.2.1 c.2.2.1) c.2.1
def i8 (b:ę) (c:Cmp):List Lk:=[(cy b c,cx b c,(sf b c).2),(cx b c,cy b c,-(sf b c).1)]
def iY (b:ę):List Lk:=b.2.1.flatMap (Ő b)++b.2.2.2.2.1.flatMap (i8 b)
def gZ (b:ę) (i:Nat) (g:Ā):List (Int×Int):=[(1,(i:Int)),(1,(i:Int))]++(List.range ((è b g).length-1)).flatMap fun _=>[(2,(i:Int)),(2,(i:Int))]
def Pe (b:ę):List (Int×Int):=(b.2.1.mapIdx (gZ b)).flatten++(b.2.2.2.2.1.mapIdx fun i _=>[(3,(i:Int)),(3,(i:Int))]).flatten
section
variable {b:ę}
def aaT (h:Φ b) {id day:Int} (hu:aaU (iE b) id day=0):(0≤day∧day≤20000)∧∃g,ċ b id=some g∧g.2.1≤day:=by
 unfold aaU at hu
 split at hu
 ·omega
 ·rename_i hd;simp only[dZ,Bool.not_eq_false,O0,inP,cG,decide_eq_true_eq] at hd;exact⟨hd,EL h hu⟩
def gX {g:Ā} {d:Int}:d∈è b g↔d=g.2.1∨(∃c∈b.2.2.2.2.1,(c.2.2.1.contains g.1)≠(c.2.2.2.1.contains g.1)∧c.2.1=d)∨(∃n∈b.2.2.2.2.2,n.1=g.1∧n.2=d):=by
 unfold è;rw[B5,UN];simp only[List.mem_append,List.mem_singleton,List.mem_map,List.mem_filter];constructor
 ·rintro((h|⟨c,⟨h1,h2⟩,h3⟩)|⟨n,⟨h1,h2⟩,h3⟩)
  ·exact .inl h
  ·exact .inr (.inl ⟨c,h1,by simpa using h2,h3⟩)
  ·exact .inr (.inr ⟨n,h1,by simpa using h2,h3⟩)
 ·rintro(h|⟨c,h1,h2,h3⟩|⟨n,h1,h2,h3⟩)
  ·exact .inl (.inl h)
  ·exact .inl (.inr ⟨c,⟨h1,by simpa using h2⟩,h3⟩)
  ·exact .inr ⟨n,⟨h1,by simpa using h2⟩,h3⟩
def Φ.gaugeR (h:Φ b) {g:Ā} (hg:g∈b.2.1):Mc g.2.2.2.2.1=true∧(-1000≤g.2.2.2.2.1.1∧g.2.2.2.2.1.1≤1000)∧g.2.2.2.2.1.2≤100∧(1≤g.1∧g.1≤1099511627776)∧(0≤g.2.1∧g.2.1≤20000)∧(1≤g.2.2.1∧g.2.2.1≤1125899906842624)∧(-1073741824≤g.2.2.2.1.1∧g.2.2.2.1.1≤g.2.2.2.1.2∧g.2.2.2.1.2≤1073741824)∧(0≤g.2.2.2.2.2∧g.2.2.2.2.2≤1048576):=(OP g).1 (h.gauge g hg)
def Φ.day (h:Φ b) {g:Ā} (hg:g∈b.2.1) {d:Int} (hd:d∈è b g):g.2.1≤d∧0≤d∧d≤20000:=by
 have hr:=h.gaugeR hg;have hgo:=vl h.ids hg;rcases gX.1 hd with rfl|⟨c,hc,h1,rfl⟩|⟨n,hn,h1,rfl⟩
 ·have:=hr.2.2.2.2.1; omega
 ·have hn:=(kG c).1 (h.nums hc)
  have hx:g.1∈c.2.2.1++c.2.2.2.1:=by
   rw[cJ]
   by_cases h2:g.1∈c.2.2.1
   ·exact .inl h2
   ·refine .inr ?_
    have e1:c.2.2.1.contains g.1=false:=by simpa using h2
    rw[e1] at h1
    have:c.2.2.2.1.contains g.1=true:=by cases hh:c.2.2.2.1.contains g.1<;>simp_all
    simpa using this
  obtain⟨⟨g',h3,h4⟩,_⟩:=h.pile hc hx;rw[hgo] at h3; cases h3;have:=hn.2.1;omega
 ·obtain⟨h2,g',h3,h4⟩:=aaT h (h.looks n hn);rw[h1,hgo] at h3; cases h3;omega
def ru (g:Ā):g.2.1∈è b g:=gX.2 (.inl rfl)
def Rw (h:Φ b) {g:Ā} (hg:g∈b.2.1):(è b g).length≤59:=by
 have h1:∀l:List Ā,g∈l→(è b g).length≤(l.flatMap fun g=>(è b g).map fun d=>((g.1,d):Int×Int)).length:=by
  intro l
  induction l with
  |nil=>intro hg; cases hg
  |cons a t ih =>
   intro hg;rw[dD,cI,dE];rcases cM.1 hg with rfl|hg
   ·omega
   ·have:=ih hg; omega
 have:=h1 b.2.1 hg;have:=h.nodes;unfold Ú at this;omega
def adD {p:List Int} {d:Int}:0≤atP (Ú b) p d∧atP (Ú b) p d≤(Ú b).length:=by
 unfold atP
 cases p with
 |nil=>simp
 |cons x t =>
  try dsimp only
  cases h:jx (Ú b) x d with
  |none=>simp
  |some j=>have:=(kg h).1; dsimp only; omega
def IH (h:Φ b) {c:Cmp} (hc:c∈b.2.2.2.2.1):(-1125904000000000≤(sf b c).1∧(sf b c).1≤1125904000000000)∧(-1125904000000000≤(sf b c).2∧(sf b c).2≤1125904000000000):=by
 obtain⟨r1,r2⟩:=h.rates hc;have hn:=(kG c).1 (h.nums hc);have ha:=jC hn.2.2.2.2.2.1;have hb:=jC hn.2.2.2.2.2.2;have hf:=h.film;obtain⟨g1,g2⟩:=Ye (Vx r1 r2) hn.2.2.2.2.1;have fb:=Lg (b:=b) (c:=c) (by omega) (by omega) (by omega) (by omega) (by omega) (by omega);have q1:yl (rX b c).1 2000000000 10000:=g1;have q2:yl (rX b c).2 2000000000 10000:=g2;have c1:=O5 q1;have c2:=Ld q2;have n3:=hn.2.2.1;have n4:=hn.2.2.2.1;unfold sf
 try dsimp only
 omega
def vf (h:Φ b) {g:Ā} (hg:g∈b.2.1) {f t:Int} (hf:0≤f):0≤jH b g f t∧jH b g f t≤12*(20001*1048576)+40*1048576:=by
 have hr:=(h.gaugeR hg).2.2.2.2.2.2.2;have h1:=rU (id:=g.1) (t:=t) hf (x:=b.2.2.2.1) fun l hl=>tx h hl;have h2:(b.2.2.2.1.length:Int)*(20001*1048576)≤12*(20001*1048576):=fp (by have:=h.nL; omega) (by omega)
 have h3:(g9 b g.1 f t).length≤40:=by
  unfold g9;rw[List.length_map];exact Nat.le_trans (List.length_filter_le _ _) h.nU
 have h4:=HZ (g9 b g.1 f t)
 have hm:0≤((Vl (g9 b g.1 f t)).length:Int)*g.2.2.2.2.2∧((Vl (g9 b g.1 f t)).length:Int)*g.2.2.2.2.2≤40*1048576 :=
  ⟨gG (by omega) hr.1,fQ (by omega) hr.2 hr.1 (by omega)⟩
 unfold jH;omega
end
def uj {α β:Type} (f:Nat→α→β) {l:List α} {i:Nat} {a:α} (h:l[i]?=some a):(l.take (i+1)).mapIdx f=(l.take i).mapIdx f++[f i a]:=by
 have hi:i<l.length:=(cH.1 h).1
 have:(l.take i).length=i:=by rw[cY]; omega
 rw[take_succ h,List.mapIdx_append];simp[this]
def ED {α:Type} (f:Nat→List α) (j:Nat):(List.range (j+1)).flatMap f=(List.range j).flatMap f++f j:=by
 rw[fI,fC]; simp
def oX {α:Type} (f:Nat→List α) (n:Nat) (h:∀k,(f k).length=2):((List.range n).flatMap f).length=2*n:=by
 induction n with
 |zero=>rfl
 |succ n ih=>rw[ED,cI,ih,h]; omega
set_option maxHeartbeats 2000000 in
def aez {b:ę} (h:Φ b):Ip b=some (b,Ú b,(((Ú b).length:Int)+1,iY b),Pe b):=by
 unfold Ip QH;have hN:=h.nodes;have hG:=h.nG;have hC:=h.nC;rw[PD h.size,À,Ñ,Ô (by omega) (by omega)]
 -- lengths of what comes
 have gl:∀g∈b.2.1,(Ő b g).length≤120∧∀i,(gZ b i g).length≤120:=by
  intro g hg;have:=Rw h hg;constructor
  ·unfold Ő;rw[List.length_append,oX _ _ (fun _=>rfl)];simp only[List.length_cons,List.length_nil]; omega
  ·intro i;unfold gZ;rw[List.length_append,oX _ _ (fun _=>rfl)];simp only[List.length_cons,List.length_nil]; omega
 have gls:∀i,((b.2.1.take i).flatMap (Ő b)).length≤1440∧(((b.2.1.take i).mapIdx (gZ b)).flatten).length≤1440:=by
  intro i
  induction i with
  |zero=>simp
  |succ i ih =>
   have key:∀i,i≤b.2.1.length→((b.2.1.take i).flatMap (Ő b)).length≤i*120∧(((b.2.1.take i).mapIdx (gZ b)).flatten).length≤i*120:=by
    intro i
    induction i with
    |zero=>intro _; simp
    |succ i ih =>
     intro hi;have ih:=ih (by omega);have hg:b.2.1[i]?=some b.2.1[i]:=cE hi;have h2:=gl _ (cN hg);have h3:=h2.2 i;rw[uj _ hg,take_succ hg,fC,List.flatten_append,cI,cI];simp only[dD,List.flatMap_nil,df,List.flatten_cons,List.flatten_nil];omega
   rcases cZ b.2.1.length (i+1) with h1|h1
   ·rw[dT (by omega)];have:=key b.2.1.length (cF _);rw[fF] at this;omega
   ·have:=key (i+1) h1;omega
 refine ġ b.2.1 (fun i=>((b.2.1.take i).flatMap (Ő b),((b.2.1.take i).mapIdx (gZ b)).flatten)) _ rfl (fun i g hi hg kn=>?_) (fun kn=>?_)
 ·try dsimp only
  unfold uT;have hgm:=List.mem_of_getElem? hg;have hr:=h.gaugeR hgm;have hd:=Rw h hgm;have hls:=gls i;have hat:=adD (b:=b) (p:=[g.1]) (d:=g.2.1);rw[Ò hi,É hg];rw[show oD ((b.1.1,b.1.2),b.2.1,b.2.2.1,b.2.2.2.1,b.2.2.2.2.1,b.2.2.2.2.2) g=oD b g from rfl,acT h.size,À];rw[ahi _ _ _ (by dsimp only; omega),À]
  try dsimp only
  have r1:=hr.2.2.2.2.2.1;have r2:=hr.2.2.2.2.2.2.1;rw[Ô (by omega) (by omega),Ô (by omega) (by omega),Ô (by omega) (by omega),Ó (by simp only[cS,dX]; omega),Am.iff_true,Ó (by simp only[cS,dX]; omega),Am.iff_true]
  refine ĕ (fun x:Int×List Lk×List (Int×Int)=>∃j:Nat,j+1≤(è b g).length∧x.1=(j:Int)+1 ∧
   x.2.1=(b.2.1.take i).flatMap (Ő b)++([(0,atP (Ú b) [g.1] g.2.1,g.2.2.1+g.2.2.2.1.2),(atP (Ú b) [g.1] g.2.1,0,-(g.2.2.1+g.2.2.2.1.1))] ++
    (List.range j).flatMap fun(k:Nat)=>[(atP (Ú b) [g.1] g.2.1+k,atP (Ú b) [g.1] g.2.1+k+1,0),(atP (Ú b) [g.1] g.2.1+k+1,atP (Ú b) [g.1] g.2.1+k,jH b g ((è b g)[k]?.getD 0) ((è b g)[k+1]?.getD 0))]) ∧
   x.2.2=((b.2.1.take i).mapIdx (gZ b)).flatten++([(1,(i:Int)),(1,(i:Int))]++(List.range j).flatMap fun _=>[(2,(i:Int)),(2,(i:Int))])) (fun x=>(è b g).length-x.1.toNat) ?_
   ⟨0,List.length_pos_of_mem (ru g),rfl,by simp,by simp⟩
  rintro⟨x1,ls,ss⟩ ⟨j,hj,e1,e2,e3⟩;dsimp only at e1 e2 e3 ⊢;subst e1
  have hlls:ls.length≤1562:=by
   rw[e2,cI,cI,oX _ _ (fun _=>rfl)];simp only[cS,dX]; omega
  have hlss:ss.length≤1562:=by
   rw[e3,cI,cI,oX _ _ (fun _=>rfl)];simp only[cS,dX]; omega
  rcases cZ (j+1) (è b g).length with hlt|hge
  ·refine .inr ⟨((j:Int)+1+1,_,_),⟨j+1,hlt,by push_cast; rfl,rfl,rfl⟩,by dsimp only; omega,fun kn'=>?_⟩
   try dsimp only
   unfold uS
   have g1:(è b g)[j]?=some ((è b g)[j]?.getD 0):=by rw[cE (by omega)]; rfl
   have g2:(è b g)[j+1]?=some ((è b g)[j+1]?.getD 0):=by rw[cE hlt]; rfl
   have d1:=h.day hgm (cN g1);have d2:=h.day hgm (cN g2);have lb:=vf h hgm (t:=(è b g)[j+1]?.getD 0) d1.2.1
   have ec:((j:Int)+1)=((j+1:Nat):Int):=by push_cast; rfl
   rw[ec,Ò hlt,Ô (by omega) (by omega),Ô (by omega) (by omega),Ô (by omega) (by omega),Ô (by omega) (by omega)];rw[show(((j+1:Nat):Int)-1)=((j:Nat):Int) by omega,É g1,É g2];rw[show yO ((b.1.1,b.1.2),b.2.1,b.2.2.1,b.2.2.2.1,b.2.2.2.2.1,b.2.2.2.2.2) (g.1,g.2.1,g.2.2.1,(g.2.2.2.1.1,g.2.2.2.1.2),(g.2.2.2.2.1.1,g.2.2.2.2.1.2),g.2.2.2.2.2) ((è b g)[j]?.getD 0) ((è b g)[j+1]?.getD 0)=yO b g ((è b g)[j]?.getD 0) ((è b g)[j+1]?.getD 0) from rfl];rw[agH h hr.2.2.2.2.2.2.2 ⟨by omega,by omega⟩ ⟨by omega,by omega⟩,À,Ô (by omega) (by omega),Ô (by omega) (by omega),Ó (by simp only[cS,dX]; omega),Am.iff_true,Ó (by simp only[cS,dX]; omega),Am.iff_true,Ë hlt (by omega)];rw[ED,ED,e2,e3]
   have a1:atP (Ú b) [g.1] g.2.1+((j+1:Nat):Int)-1=atP (Ú b) [g.1] g.2.1+(j:Int):=by push_cast; omega
   have a2:atP (Ú b) [g.1] g.2.1+((j+1:Nat):Int)=atP (Ú b) [g.1] g.2.1+(j:Int)+1:=by push_cast; omega
   have a3:0-(0-jH b g ((è b g)[j]?.getD 0) ((è b g)[j+1]?.getD 0))=jH b g ((è b g)[j]?.getD 0) ((è b g)[j+1]?.getD 0):=by omega
   rw[a1,a2,a3];simp only[cP]
  ·refine .inl fun kn'=>?_
   have hje:j+1=(è b g).length:=by omega
   unfold uS;rw[show((j:Int)+1)=(((è b g).length:Nat):Int) by rw[←hje]; push_cast; rfl,â];dsimp only;rw[Ë hi (by omega)];rw[uj _ hg,take_succ hg,List.flatMap_append,List.flatten_append,e2,e3,show j=(è b g).length-1 by omega];simp only[List.flatMap_cons,List.flatMap_nil,List.append_nil,List.flatten_cons,List.flatten_nil];rfl
 ·try dsimp only
  unfold uT;rw[â,List.take_length];have hls:=gls b.2.1.length;rw[List.take_length] at hls
  have cl:∀i,i≤b.2.2.2.2.1.length→((b.2.2.2.2.1.take i).flatMap (i8 b)).length=2*i∧(((b.2.2.2.2.1.take i).mapIdx fun i _=>[((3:Int),(i:Int)),((3:Int),(i:Int))]).flatten).length=2*i:=by
   intro i
   induction i with
   |zero=>intro _; simp
   |succ i ih =>
    intro hi;have ih:=ih (by omega);have hg:b.2.2.2.2.1[i]?=some b.2.2.2.2.1[i]:=cE hi;rw[uj _ hg,take_succ hg,fC,List.flatten_append,cI,cI];simp only[dD,List.flatMap_nil,df,List.flatten_cons,List.flatten_nil,i8,cS,dX];omega
  refine ġ b.2.2.2.2.1 (fun i=>(b.2.1.flatMap (Ő b)++(b.2.2.2.2.1.take i).flatMap (i8 b),(b.2.1.mapIdx (gZ b)).flatten++((b.2.2.2.2.1.take i).mapIdx fun i _=>[((3:Int),(i:Int)),((3:Int),(i:Int))]).flatten)) _ (by simp) (fun i c hi hc kn'=>?_) (fun kn'=>?_)
  ·try dsimp only
   unfold uR;have hcm:=List.mem_of_getElem? hc;have hn:=(kG c).1 (h.nums hcm);have ha:=jC hn.2.2.2.2.2.1;have hb:=jC hn.2.2.2.2.2.2;have sb:=IH h hcm;have c1:=cl i (by omega);rw[Ò hi,É hc,xP (by omega) (by omega),À,ahi _ _ _ (by dsimp only; omega),À,xP (by omega) (by omega),À,ahi _ _ _ (by dsimp only; omega),À];rw[show yN ((b.1.1,b.1.2),b.2.1,b.2.2.1,b.2.2.2.1,b.2.2.2.2.1,b.2.2.2.2.2) c=yN b c from rfl,h.says hcm,À];rw[Ô (by omega) (by omega),Ó (by simp only[List.length_append,List.length_cons,List.length_nil]; omega),Am.iff_true,Ó (by simp only[List.length_append,List.length_cons,List.length_nil]; omega),Am.iff_true,Ë hi (by omega),uj _ hc,take_succ hc,List.flatMap_append,List.flatten_append];simp only[List.flatMap_cons,List.flatMap_nil,List.append_nil,List.flatten_cons,List.flatten_nil,List.append_assoc,Int.zero_sub];rfl
  ·try dsimp only
   unfold uR;rw[â,List.take_length];rfl
section
variable {ρ:Type}
def wv (w:List Bool) (v:Int):Bool:=w[v.toNat]?.getD false
def XB {w:List Bool} {u v:Int} (hu:0≤u) (hv:0≤v) (h:u.toNat<w.length) (y:Bool):wv (w.set u.toNat y) v=if v=u then y else wv w v:=by
 unfold wv;rw[List.getElem?_set]
 by_cases hvu:v=u
 ·subst hvu; simp[h]
 ·have:¬u.toNat=v.toNat:=by omega
  simp[hvu,this]
def j6 {x:List Int} {v:Int} (h:v.toNat<x.length) (f:Int→Option ρ):ĸ x v.toNat f=f (gv x v):=iJ (Yw h) f
def PF {w:List Bool} {v:Int} (h:v.toNat<w.length) (f:Bool→Option ρ):ĸ w v.toNat f=f (wv w v):=by
 refine iJ ?_ f;unfold wv; rw[List.getElem?_eq_getElem h]; rfl
def ż {v:Int} {n:Nat} (h0:0≤v) (h1:v<n) (x:Option ρ):ß ((ile 0 v)&&(ilt v (n:Int))) x=x:=by
 have:((ile 0 v)&&(ilt v (n:Int)))=true:=by simp[ile,ilt,h0,h1]
 rw[this,Am.iff_true]
end
def pD (n least:Int):List Lk→List Int→List Bool→List Int→Bool×List Int×List Bool×List Int
 |[],x,w,q=>(true,x,w,q)
 |l::t,x,w,q =>
  if l.1≠n then pD n least t x w q else
  if gv x l.2.1≤gv x n+l.2.2 then pD n least t x w q else
  if gv x n+l.2.2<least then(false,x.set l.2.1.toNat (gv x n+l.2.2),w,q) else
  if wv w l.2.1 then pD n least t (x.set l.2.1.toNat (gv x n+l.2.2)) w q else pD n least t (x.set l.2.1.toNat (gv x n+l.2.2)) (w.set l.2.1.toNat true) (q++[l.2.1])
structure iw (L:List Lk) (N:Nat) (M:Int):Prop where
 inr:InR L N
 noloop:∀l∈L,l.1≠l.2.1
 most:∀l∈L,-M≤l.2.2∧l.2.2≤M
 len:L.length≤400
 nodes:N≤1000
 m0:0≤M
 m1:M≤4503599627370496
set_option maxHeartbeats 1000000 in
def aeN {ρ:Type} {L:List Lk} {N:Nat} {M:Int} (hL:iw L N M) {n least:Int} (hn:0≤n∧n<N) {x:List Int} {w:List Bool} {q:List Int} (hx:x.length=N) (hw:w.length=N) (hq:q.length≤1000000)
 (hb : -2305843009213693952≤gv x n∧gv x n≤2305843009213693952) (K0:(Val (.pair .bool (.pair (.slice tI) (.pair (.slice .bool) (.slice tI)))))→Option ρ) (K1:(Val (.pair (.slice tI) (.pair (.slice .bool) (.slice tI))))→Option ρ) :
 Ê (fun(v47:(Val (.pair tI (.pair (.slice tI) (.pair (.slice .bool) (.slice tI)))))) kk52=>iV [] least n L (Ø L) v47.1 v47.2.1 v47.2.2.1 v47.2.2.2 (fun u48 u49 u50 u51=>kk52 (u48,u49,u50,u51)) K0 K1) ((0:Int),x,w,q) =
  match pD n least L x w q with
  |(true,r)=>K1 r
  |(false,r)=>K0 (false,r):=by
 have hlen:=hL.len
 refine Q4 L (fun i (s:List Int×List Bool×List Int) t=>match pD n least t s.1 s.2.1 s.2.2 with|(true,r)=>K1 r|(false,r)=>K0 (false,r))
  (fun i s=>s.1.length=N∧s.2.1.length=N∧gv s.1 n=gv x n∧s.2.2.length≤1000000+i) (fun s hs kn=>?_) (fun i l t s hd hi hl hI kn hk=>?_) (s:=(x,w,q)) ⟨hx,hw,rfl,by simpa using hq⟩
 ·try dsimp only
  unfold iV;rw[â];rfl
 ·obtain⟨y,u,p⟩:=s;obtain⟨h1,h2,h3,h4⟩:=hI;dsimp only at h1 h2 h3 h4 hk ⊢;have hmem:l∈L:=List.mem_of_getElem? hl;have hr:=hL.inr l hmem;have hm:=hL.most l hmem;have hm1:=hL.m1;have hnl:=hL.noloop l hmem;unfold iV;rw[Ò hi,É hl];unfold pD
  by_cases hln:l.1=n
  ·have e0:ine l.1 n=false:=by simp[ine,hln]
   rw[Î e0];have e1:∀(f:Bool→Option ρ) (g:Option ρ),L5 (k:=tI) (v:=.bool) (i:Int) [] f g=g:=fun f g=>rfl;rw[e1,if_neg (by simp[hln])]
   have tn:n.toNat<y.length:=by omega
   have tt:l.2.1.toNat<y.length:=by omega
   have tu:l.2.1.toNat<u.length:=by omega
   rw[ż hn.1 (by omega),j6 tn,Ô (by omega) (by omega),ż hr.2.1 (by omega),j6 tt,Č]
   by_cases hge:gv y l.2.1≤gv y n+l.2.2
   ·rw[if_pos (by simpa[ige] using hge),if_pos hge,Ë hi (by omega)];exact hk (y,u,p) ⟨h1,h2,h3,by dsimp only; omega⟩
   ·rw[if_neg (by simpa[ige] using hge),if_neg hge]
    have hset:gv (y.set l.2.1.toNat (gv y n+l.2.2)) n=gv x n:=by
     rw[rk hr.2.1 hn.1 tt,if_neg (fun h=>hnl (hln.trans h)),h3]
    have hself:gv (y.set l.2.1.toNat (gv y n+l.2.2)) l.2.1=gv y n+l.2.2:=by
     rw[rk hr.2.1 hr.2.1 tt,if_pos rfl]
    rw[ż hn.1 (by omega),j6 tn,Ô (by omega) (by omega),ż hr.2.1 (by omega),j6 tt];rw[show(ì (List.set y l.2.1.toNat (gv y n+l.2.2)))=((y.length:Nat):Int) by simp[ì]];rw[ż hr.2.1 (by omega),j6 (by simpa using tt),hself,Č]
    by_cases hlt:gv y n+l.2.2<least
    ·rw[if_pos (by simpa[ilt] using hlt),if_pos hlt]
    ·rw[if_neg (by simpa[ilt] using hlt),if_neg hlt,ż hr.2.1 (by omega),PF tu,Č]
     cases hwv:wv u l.2.1 with
     |true =>
      rw[if_neg (by simp),if_pos rfl,Ë hi (by omega)];exact hk (y.set l.2.1.toNat (gv y n+l.2.2),u,p) ⟨by simpa using h1,h2,hset,by dsimp only; omega⟩
     |false =>
      rw[if_pos (by simp),if_neg (by simp),Ó (by simp only[dH]; omega),Am.iff_true,ż hr.2.1 (by omega),PF tu,Ë hi (by omega)];exact hk (y.set l.2.1.toNat (gv y n+l.2.2),u.set l.2.1.toNat true,p++[l.2.1]) ⟨by simpa using h1,by simpa using h2,hset,by simp only[cI,dH]; omega⟩
  ·have e0:ine l.1 n=true:=by simp[ine,hln]
   rw[Ù e0,if_pos hln,Ë hi (by omega)];exact hk (y,u,p) ⟨h1,h2,h3,by dsimp only; omega⟩
structure afF (N:Nat) (n least:Int) (L:List Lk) (x:List Int) (q:List Int) (x':List Int) (w':List Bool) (q':List Int):Prop where
 lx:x'.length=N
 lw:w'.length=N
 same:gv x' n=gv x n
 le:∀v:Int,0≤v→v<N→gv x' v≤gv x v
 link:∀v m,(n,v,m)∈L→gv x' v≤gv x n+m
 chg:∀v:Int,0≤v→v<N→gv x' v=gv x v∨(v∈q'∧gv x' v<gv x v∧∃m,(n,v,m)∈L∧gv x' v=gv x n+m∧least≤gv x' v)
 new:∃l,q'=q++l∧∀v∈l,(0≤v∧v<N)∧gv x' v<gv x v
 nodup:q'.Nodup
 waits:∀v:Int,0≤v→v<N→(wv w' v=true↔v∈q')
def km {N:Nat} {n least:Int} (hn:0≤n∧n<N):∀{L:List Lk},InR L N→(∀l∈L,l.1≠l.2.1)→∀{x:List Int} {w:List Bool} {q:List Int},x.length=N→w.length=N→q.Nodup→(∀v:Int,0≤v→v<N→(wv w v=true↔v∈q)) →
 ∀{x':List Int} {w':List Bool} {q':List Int},pD n least L x w q=(true,x',w',q')→afF N n least L x q x' w' q'
 |[],_,_,x,w,q,hx,hw,hq,hwq,x',w',q',h=>by
  cases h;exact⟨hx,hw,rfl,fun _ _ _=>dR _,fun _ _ h=>(by cases h),fun _ _ _=>.inl rfl,⟨[],by simp,fun _ h=>by cases h⟩,hq,hwq⟩
 |l::t,hL,hnl,x,w,q,hx,hw,hq,hwq,x',w',q',h=>by
  have hLt:InR t N:=fun l hl=>hL l (by simp[hl]);have hnt:∀l∈t,l.1≠l.2.1:=fun l hl=>hnl l (by simp[hl]);have hr:=hL l (by simp);have hl0:=hnl l (by simp);unfold pD at h
  split at h
  ·rename_i hne;have a:=km hn hLt hnt hx hw hq hwq h
   exact⟨a.lx,a.lw,a.same,a.le,fun v m hm=>by
    rcases cM.1 hm with rfl|hm
    ·exact(hne rfl).elim
    ·exact a.link v m hm,fun v h0 h1=>(a.chg v h0 h1).imp id fun⟨g1,g2,m,g3,g4⟩=>⟨g1,g2,m,by simp[g3],g4⟩,a.new,a.nodup,a.waits⟩
  ·rename_i hne
   have hln:l.1=n:=by simpa using hne
   split at h
   ·rename_i hle;have a:=km hn hLt hnt hx hw hq hwq h
    exact⟨a.lx,a.lw,a.same,a.le,fun v m hm=>by
     rcases cM.1 hm with rfl|hm
     ·have:=a.le v hr.2.1 hr.2.2; simp only at hle; omega
     ·exact a.link v m hm,fun v h0 h1=>(a.chg v h0 h1).imp id fun⟨g1,g2,m,g3,g4⟩=>⟨g1,g2,m,by simp[g3],g4⟩,a.new,a.nodup,a.waits⟩
   ·rename_i hgt
    split at h
    ·cases h
    ·rename_i hls
     have tt:l.2.1.toNat<x.length:=by omega
     have tw:l.2.1.toNat<w.length:=by omega
     have hy:(x.set l.2.1.toNat (gv x n+l.2.2)).length=N:=by simpa using hx
     have hyn:gv (x.set l.2.1.toNat (gv x n+l.2.2)) n=gv x n:=by
      rw[rk hr.2.1 hn.1 tt,if_neg (fun h=>hl0 (hln.trans h))]
     have hyv:∀v,0≤v→gv (x.set l.2.1.toNat (gv x n+l.2.2)) v=if v=l.2.1 then gv x n+l.2.2 else gv x v:=fun v h0=>rk hr.2.1 h0 tt _
     have hlm:(n,l.2.1,l.2.2)∈l::t:=by rw[←hln]; simp
     -- what both ways have in common
     have fin:∀{w1:List Bool} {q1:List Int},afF N n least t (x.set l.2.1.toNat (gv x n+l.2.2)) q1 x' w' q'→l.2.1∈q1→(∃l',q1=q++l'∧∀v∈l',v=l.2.1)→afF N n least (l::t) x q x' w' q':=by
      intro w1 q1 a hmem hq1;obtain⟨new,hnew,hnv⟩:=a.new;obtain⟨l',hl',hlv⟩:=hq1
      have hto:gv x' l.2.1≤gv x n+l.2.2:=by
       have:=a.le l.2.1 hr.2.1 hr.2.2;rw[hyv _ hr.2.1,if_pos rfl] at this;exact this
      refine⟨a.lx,a.lw,a.same.trans hyn,fun v h0 h1=>?_,fun v m hm=>?_,fun v h0 h1=>?_,⟨l'++new,by rw[hnew,hl',cP],fun v hv=>?_⟩,a.nodup,a.waits⟩
      ·have:=a.le v h0 h1;rw[hyv v h0] at this
       split at this
       ·rename_i e; subst e; omega
       ·exact this
      ·rcases cM.1 hm with rfl|hm
       ·exact hto
       ·have:=a.link v m hm
        rwa [hyn] at this
      ·rcases a.chg v h0 h1 with g|⟨g1,g2,m,g3,g4,g5⟩
       ·rw[hyv v h0] at g
        split at g
        ·rename_i e;subst e;exact .inr ⟨by rw[hnew]; exact dA _ hmem,by omega,l.2.2,hlm,g,by omega⟩
        ·exact .inl g
       ·rw[hyv v h0] at g2;rw[hyn] at g4;refine .inr ⟨g1,?_,m,by simp[g3],g4,g5⟩
        split at g2
        ·rename_i e; subst e; omega
        ·exact g2
      ·rcases cJ.1 hv with hv|hv
       ·rw[hlv v hv]; exact⟨hr.2,by omega⟩
       ·obtain⟨g1,g2⟩:=hnv v hv;rw[hyv v g1.1] at g2;refine⟨g1,?_⟩
        split at g2
        ·rename_i e; subst e; omega
        ·exact g2
     split at h
     ·rename_i hwt;exact fin (w1:=w) (km hn hLt hnt hy hw hq hwq h) ((hwq _ hr.2.1 hr.2.2).1 hwt) ⟨[],by simp,fun _ h=>by cases h⟩
     ·rename_i hwt;have hnq:l.2.1∉q:=fun hc=>hwt ((hwq _ hr.2.1 hr.2.2).2 hc);refine fin (w1:=w.set l.2.1.toNat true) (km hn hLt hnt hy (by simpa using hw) ?_ ?_ h) (by simp) ⟨[l.2.1],rfl,fun v hv=>by simpa using hv⟩
      ·rw[List.nodup_append];exact⟨hq,by simp,fun a ha b hb=>by simp at hb; subst hb; exact fun e=>hnq (e▸ha)⟩
      ·intro v h0 h1;rw[XB hr.2.1 h0 tw]
       by_cases hv:v=l.2.1
       ·simp[hv]
       ·simp only[hv,if_false,cJ,cO,or_false];exact hwq v h0 h1
def nz {n least:Int}:∀{L:List Lk},(∀l∈L,l.1≠l.2.1)→(∀l∈L,0≤l.2.1)→0≤n→∀{x:List Int} {w:List Bool} {q:List Int} {r},pD n least L x w q=(false,r)→∃v m,(n,v,m)∈L∧gv x n+m<least
 |[],_,_,_,x,w,q,r,h=>by cases h
 |l::t,hnl,h0,hn,x,w,q,r,h=>by
  have hnt:∀l∈t,l.1≠l.2.1:=fun l hl=>hnl l (by simp[hl]);have h0t:∀l∈t,0≤l.2.1:=fun l hl=>h0 l (by simp[hl]);have up:(∃v m,(n,v,m)∈t∧gv x n+m<least)→∃v m,(n,v,m)∈l::t∧gv x n+m<least:=fun⟨v,m,g1,g2⟩=>⟨v,m,by simp[g1],g2⟩;unfold pD at h
  split at h
  ·exact up (nz hnt h0t hn h)
  ·rename_i hne
   have hln:l.1=n:=by simpa using hne
   split at h
   ·exact up (nz hnt h0t hn h)
   ·split at h
    ·rename_i hlt;exact⟨l.2.1,l.2.2,by rw[←hln]; simp,hlt⟩
    ·have hyn:gv (x.set l.2.1.toNat (gv x n+l.2.2)) n=gv x n:=by
      unfold gv;rw[List.getElem?_set];have h1:=hnl l (by simp);have h2:=h0 l (by simp)
      have:¬l.2.1.toNat=n.toNat:=by omega
      simp[this]
     split at h
     ·have:=nz hnt h0t hn h;rw[hyn] at this;exact up this
     ·have:=nz hnt h0t hn h;rw[hyn] at this;exact up this
def Yf {ρ:Type} {L:List Lk} {N:Nat} {M:Int} (hL:iw L N M) {n least:Int} (hn:0≤n∧n<N) {x:List Int} {w:List Bool} {t rest:List Int} (hx:x.length=N) (hw:w.length=N) (ht:t.length=N) (hq:rest.length≤1000000)
 (hb : -2305843009213693952≤gv x n∧gv x n≤2305843009213693952) (htn:0≤gv t n∧gv t n≤1000000) (kn:List Int→List Bool→List Int→List Int→Option ρ) (k0:(Val (.pair .bool (.pair (.slice tI) (.pair (.slice .bool) (.pair (.slice tI) (.slice tI))))))→Option ρ) :
 ĩ [] least (N:Int) L x w t (n::rest) kn k0 =
  if (N:Int)+1<gv t n+1 then k0 (false,x,w.set n.toNat false,t.set n.toNat (gv t n+1),rest) else
  match pD n least L x (w.set n.toNat false) rest with
  |(true,x',w',q')=>kn x' w' (t.set n.toNat (gv t n+1)) q'
  |(false,x',w',q')=>k0 (false,x',w',t.set n.toNat (gv t n+1),q'):=by
 have hN:=hL.nodes
 have tn:n.toNat<x.length:=by omega
 have tw:n.toNat<w.length:=by omega
 have tt:n.toNat<t.length:=by omega
 unfold ĩ
 have e0:ieq (Ø (n::rest)) 0=false:=by
  rw[Ñ];simp only[ieq,cS,beq_eq_false_iff_ne,ne_eq];omega
 have e1:ilt (0:Int) (ì (n::rest))=true:=by simp[ilt,ì]
 have e2:ile (1:Int) (ì (n::rest))=true:=by simp[ile,ì]; omega
 have e3:decide (1+(List.length (n::rest)-1)=List.length (n::rest))=true:=by simp; omega
 rw[Î e0,ð e1];rw[show ĸ (n::rest) 0=fun(f:Int→Option ρ)=>f n from rfl]
 try dsimp only
 rw[ð e2,ð e3,ż hn.1 (by omega),PF tw,ż hn.1 (by omega),j6 tt,Ô (by omega) (by omega),ż hn.1 (by omega),j6 tt];rw[show(ì (List.set t n.toNat (gv t n+1)))=((t.length:Nat):Int) by simp[ì]];rw[ż hn.1 (by omega),j6 (by simpa using tt),rk hn.1 hn.1 tt,if_pos rfl,Ô (by omega) (by omega),Č];rw[show List.drop 1 (n::rest)=rest from rfl]
 by_cases hlt:(N:Int)+1<gv t n+1
 ·rw[if_pos (by simpa[igt] using hlt),if_pos hlt]
 ·rw[if_neg (by simpa[igt] using hlt),if_neg hlt];rw[aeN hL hn hx (w:=w.set n.toNat false) (by simpa using hw) hq hb];generalize pD n least L x (w.set n.toNat false) rest=r;obtain⟨b,x',w',q'⟩:=r
  cases b<;>rfl
def abA {ρ:Type} {L:List Lk} {N:Int} {least:Int} {x:List Int} {w:List Bool} {t:List Int} (kn:List Int→List Bool→List Int→List Int→Option ρ) (k0:(Val (.pair .bool (.pair (.slice tI) (.pair (.slice .bool) (.pair (.slice tI) (.slice tI))))))→Option ρ) :
 ĩ [] least N L x w t [] kn k0=k0 (true,x,w,t,[]):=by
 unfold ĩ
 have e0:ieq (Ø ([]:List Int)) 0=true:=by rw[Ñ]; rfl
 rw[Ù e0]
def Q8 (N:Nat) (t:List Int):Nat:=(t.map fun a=>((N:Int)+2-a).toNat).sum
def Yq (N:Nat):∀(t:List Int) (i:Nat) (a b:Int),t[i]?=some a→a<b→a<(N:Int)+2→Q8 N (t.set i b)<Q8 N t
 |a0::t,0,a,b,h,h1,h2=>by
  simp at h; subst h;simp only[Q8,List.set_cons_zero,eE,List.sum_cons];omega
 |a0::t,i+1,a,b,h,h1,h2=>by
  have:=Yq N t i a b (by simpa using h) h1 h2;simp only[Q8] at this;simp only[Q8,List.set_cons_succ,eE,List.sum_cons];omega
def Ux {N:Nat} {t:List Int} {n:Int} (hn:n.toNat<t.length) (h:gv t n≤(N:Int)+1):Q8 N (t.set n.toNat (gv t n+1))<Q8 N t :=
 Yq N t n.toNat (gv t n) _ (Yw hn) (by omega) (by omega)
structure aaE (L:List Lk) (S:Int→Prop) (N:Nat) (M:Int) (k:Nat) (A B:List Int) (x:List Int) (w:List Bool) (t q:List Int):Prop where
 q_eq:q=A++B
 lx:x.length=N
 lw:w.length=N
 lt:t.length=N
 nodup:q.Nodup
 rng:∀v∈q,0≤v∧v<N
 waits:∀v:Int,0≤v→v<N→(wv w v=true↔v∈q)
 t0:∀v:Int,0≤v→v<N→0≤gv t v∧gv t v≤(k:Int)+1
 tA:∀v∈A,gv t v≤k
 low:∀vs v d,Wl L S vs v d→vs.length≤k→gv x v≤d
 nxt:∀vs u d,Wl L S vs u d→vs.length≤k→u∉A→∀v m,(u,v,m)∈L→gv x v≤d+m
 rel:∀u:Int,0≤u→u<N→u∉q→gv x u≠ş→∀v m,(u,v,m)∈L→gv x v≤gv x u+m
 att:∀v:Int,0≤v→v<N→gv x v≠ş→∃vs,Wl L S vs v (gv x v)
 bd:∀v:Int,0≤v→v<N→gv x v=ş∨gv x v≤((k:Int)+1)*M
 bA:∀v∈A,gv x v≤(k:Int)*M
 fin:∀v∈q,gv x v<ş
 kN:k+1≤N
 last:k+1=N→B=[]
section
variable {L:List Lk} {S:Int→Prop} {N:Nat} {M:Int} {p:Int→Int} {k:Nat} {A B x:List Int} {w:List Bool} {t q:List Int}
def H9 {a b:Nat} {M:Int} (h:a≤b) (hM:0≤M):(a:Int)*M≤(b:Int)*M:=fp (by omega) hM
def Wl.lt_free (hL:iw L N M) (hNM:N*M<ş) {vs:List Int} {v d:Int} (hw:Wl L S vs v d) (h:vs.length≤N):d<ş:=by
 have h1:=hw.high fun l hl=>(hL.most l hl).2;have h2:=H9 h hL.m0;omega
def aaE.next (hL:iw L N M) (hNM:N*M<ş) (hS:∀v,S v→0≤v∧v<N) (h:aaE L S N M k [] B x w t q) (hB:B≠[]):aaE L S N M (k+1) B [] x w t q:=by
 have hM:=hL.m0
 have hq:q=B:=by simpa using h.q_eq
 have hk:k+1≠N:=fun e=>hB (h.last e);have hkN:=h.kN
 have low':∀vs v d,Wl L S vs v d→vs.length≤k+1→gv x v≤d:=by
  intro vs v d hw hl
  cases hw with
  |nil hs=>exact h.low [] v 0 (.nil hs) (by simp)
  | @step vs u _ m d hw hlk=>exact h.nxt vs u d hw (by simpa using hl) (by simp) v m hlk
 refine⟨by simp[hq],h.lx,h.lw,h.lt,h.nodup,h.rng,h.waits,fun v h0 h1=>⟨(h.t0 v h0 h1).1,by have:=(h.t0 v h0 h1).2; push_cast; omega⟩,fun v hv=>?_,low',fun vs u d hw hl hu v m hlk=>?_,h.rel,h.att,fun v h0 h1=>?_,fun v hv=>?_,h.fin,by omega,fun _=>rfl⟩
 ·have:=h.rng v (by rw[hq]; exact hv);have:=(h.t0 v this.1 this.2).2;push_cast; omega
 ·have h1:=low' vs u d hw hl;have h2:=hw.lt_free hL hNM (by omega);have h3:=(hw.range hL.inr hS).1;have:=h.rel u h3.1 h3.2 (by rw[hq]; exact hu) (by omega) v m hlk;omega
 ·rcases h.bd v h0 h1 with h2|h2
  ·exact .inl h2
  ·refine .inr ?_;have:=H9 (show k+1≤k+1+1 by omega) hM;push_cast at this ⊢;omega
 ·have h1:=h.rng v (by rw[hq]; exact hv);have h2:=h.fin v (by rw[hq]; exact hv);rcases h.bd v h1.1 h1.2 with h3|h3
  ·omega
  ·push_cast; exact h3
def aaE.step {n:Int} {A':List Int} {least:Int} {x':List Int} {w':List Bool} {q':List Int} (hL:iw L N M) (hNM:N*M<ş) (hp:Pot L p) (hS:∀v,S v→0≤v∧v<N) (h:aaE L S N M k (n::A') B x w t q)
 (ha:afF N n least L x (A'++B) x' w' q'):∃B',aaE L S N M k A' B' x' w' (t.set n.toNat (gv t n+1)) q':=by
 have hM:=hL.m0
 have hq:q=n::(A'++B):=by simpa using h.q_eq
 have hkN:=h.kN;have hnr:=h.rng n (by rw[hq]; simp);have hnf:=h.fin n (by rw[hq]; simp)
 have hnd:n∉A'++B:=by have:=h.nodup; rw[hq,eX] at this; exact this.1
 have htn:n.toNat<t.length:=by have:=h.lt; omega
 have tset:∀v,0≤v→gv (t.set n.toNat (gv t n+1)) v=if v=n then gv t n+1 else gv t v:=fun v h0=>rk hnr.1 h0 htn _
 have hkM:((k:Int)+1)*M<ş:=by
  have:=H9 hkN hM;push_cast at this;omega
 have xle:∀v:Int,0≤v→v<N→gv x v≤ş:=fun v h0 h1=>by rcases h.bd v h0 h1 with h2|h2<;>omega
 obtain⟨l,hl,hlv⟩:=ha.new
 have att':∀v:Int,0≤v→v<N→gv x' v≠ş→∃vs,Wl L S vs v (gv x' v):=by
  intro v h0 h1 hne;rcases ha.chg v h0 h1 with g|⟨_,_,m,g3,g4,_⟩
  ·rw[g] at hne ⊢; exact h.att v h0 h1 hne
  ·obtain⟨vs,hw⟩:=h.att n hnr.1 hnr.2 (by omega);rw[g4]; exact⟨_,hw.step g3⟩
 refine⟨B++l,by rw[hl,cP],ha.lx,ha.lw,by rw[eW]; exact h.lt,ha.nodup,fun v hv=>?_,ha.waits,fun v h0 h1=>?_,fun v hv=>?_,fun vs v d hw hlen=>?_,fun vs u d hw hlen hu v m hlk=>?_,
  fun u h0 h1 hu hf v m hlk=>?_,att',fun v h0 h1=>?_,fun v hv=>?_,fun v hv=>?_,hkN,fun hk=>?_⟩
 ·rw[hl] at hv;rcases cJ.1 hv with hv|hv
  ·exact h.rng v (by rw[hq]; simp only[cM]; exact .inr hv)
  ·exact(hlv v hv).1
 ·rw[tset v h0];have h2:=h.t0 v h0 h1
  split
  ·have h3:=h.tA n (by simp);have h4:=h.t0 n hnr.1 hnr.2;omega
  ·exact h2
 ·have h1:=h.rng v (by rw[hq]; simp[hv]);rw[tset v h1.1,if_neg (fun e=>hnd (by rw[←e]; simp[hv]))];exact h.tA v (by simp[hv])
 ·have h1:=h.low vs v d hw hlen;have h2:=(hw.range hL.inr hS).1;have:=ha.le v h2.1 h2.2;omega
 ·have hvr:=(hL.inr _ hlk).2
  by_cases hun:u=n
  ·subst hun;have h1:=ha.link v m hlk;have h2:=h.low vs u d hw hlen;omega
  ·have h1:=h.nxt vs u d hw hlen (by simp[hun,hu]) v m hlk;have:=ha.le v hvr.1 hvr.2;omega
 ·have hvr:=(hL.inr _ hlk).2
  have heq:gv x' u=gv x u:=by
   rcases ha.chg u h0 h1 with g|⟨g,_⟩
   ·exact g
   ·exact(hu g).elim
  by_cases hun:u=n
  ·subst hun;have h1:=ha.link v m hlk;omega
  ·have hur:u∉q:=by
    rw[hq];intro hc;rcases cM.1 hc with e|hc
    ·exact hun e
    ·exact hu (by rw[hl]; exact dA _ hc)
   have h2:=h.rel u h0 h1 hur (by rw[←heq]; exact hf) v m hlk;have:=ha.le v hvr.1 hvr.2;omega
 ·rcases ha.chg v h0 h1 with g|⟨_,_,m,g3,g4,_⟩
  ·rw[g]; exact h.bd v h0 h1
  ·have h2:=h.bA n (by simp);have h3:=(hL.most _ g3).2;simp only at h3;refine .inr ?_;rw[g4,f5,gk];omega
 ·have h1:=h.rng v (by rw[hq]; simp[hv]);have h2:=h.bA v (by simp[hv]);have:=ha.le v h1.1 h1.2;omega
 ·rw[hl] at hv;rcases cJ.1 hv with hv|hv
  ·have h1:=h.rng v (by rw[hq]; simp only[cM]; exact .inr hv);have h2:=h.fin v (by rw[hq]; simp only[cM]; exact .inr hv);have:=ha.le v h1.1 h1.2;omega
  ·obtain⟨g1,g2⟩:=hlv v hv;have:=xle v g1.1 g1.2;omega
 ·rw[h.last hk]
  cases l with
  |nil=>rfl
  |cons v l =>
   exfalso;obtain⟨g1,g2⟩:=hlv v (by simp);have:=xle v g1.1 g1.2;obtain⟨vs,hw⟩:=att' v g1.1 g1.2 (by omega);obtain⟨vs',d',k1,k2,k3⟩:=hw.simple hp;have k4:=k1.short hL.inr hS k3;have:=h.low vs' v d' k1 (by omega);omega
def aaE.done (hL:iw L N M) (hNM:N*M<ş) (hp:Pot L p) (hS:∀v,S v→0≤v∧v<N) (h:aaE L S N M k A B x w t []):aaG L S N (gv x):=by
 have hkN:=h.kN;have hM:=hL.m0
 have hkM:((k:Int)+1)*M<ş:=by
  have:=H9 hkN hM;push_cast at this;omega
 have key:∀vs v d,Wl L S vs v d→vs.length+1≤N→gv x v≤d:=by
  intro vs v d hw
  induction hw with
  |nil hs=>intro _; exact h.low [] _ 0 (.nil hs) (by simp)
  | @step vs u v m d hw hlk ih =>
   intro hlen;simp only[cS] at hlen;have h1:=ih (by omega);have h2:=hw.lt_free hL hNM (by omega);have h3:=(hw.range hL.inr hS).1;have:=h.rel u h3.1 h3.2 (by simp) (by omega) v m hlk;omega
 refine⟨h.att,fun v vs d hw=>?_,fun v h0 h1=>?_⟩
 ·obtain⟨vs',d',k1,k2,k3⟩:=hw.simple hp;have:=key vs' v d' k1 (k1.short hL.inr hS k3);omega
 ·rcases h.bd v h0 h1 with h2|h2<;>omega
def Sn {ρ:Type} {r:Option ρ} (hL:iw L N M) (hNM:N*M<ş) (hp:Pot L p) (hS:∀v,S v→0≤v∧v<N) (k0:(Val (.pair .bool (.pair (.slice tI) (.pair (.slice .bool) (.pair (.slice tI) (.slice tI))))))→Option ρ)
 (hK:∀x w t q,x.length=N→aaG L S N (gv x)→k0 (true,x,w,t,q)=r) (h:aaE L S N M k A B x w t q) :
 Ê (fun(v64:(Val (.pair (.slice tI) (.pair (.slice .bool) (.pair (.slice tI) (.slice tI)))))) kk69=>ĩ [] (H8 L) (N:Int) L v64.1 v64.2.1 v64.2.2.1 v64.2.2.2 (fun u65 u66 u67 u68=>kk69 (u65,u66,u67,u68)) k0) (x,w,t,q)=r:=by
 refine ĕ (fun s:List Int×List Bool×List Int×List Int=>∃k A B,aaE L S N M k A B s.1 s.2.1 s.2.2.1 s.2.2.2) (fun s=>Q8 N s.2.2.1) ?_ ⟨k,A,B,h⟩;rintro⟨x,w,t,q⟩ ⟨k,A,B,h⟩;dsimp only at h ⊢;have hN:=hL.nodes
 cases q with
 |nil=>exact .inl fun kn=>by rw[abA]; exact hK x w t [] h.lx (h.done hL hNM hp hS)
 |cons n rest =>
  -- the phase in which the first one is
  have hph:∃k A' B,aaE L S N M k (n::A') B x w t (n::rest):=by
   cases A with
   |nil =>
    have hB:B=n::rest:=by simpa using h.q_eq.symm
    subst hB;exact⟨k+1,rest,[],h.next hL hNM hS (by simp)⟩
   |cons a A' =>
    have:=h.q_eq;simp only[eO,List.cons.injEq] at this;obtain⟨rfl,_⟩:=this;exact⟨k,A',B,h⟩
  clear h k A B;obtain⟨k,A',B,h⟩:=hph
  have hrest:rest=A'++B:=by have:=h.q_eq; simpa using this
  have hnr:=h.rng n (by simp);have hnf:=h.fin n (by simp);have hkN:=h.kN;have h1:=h.tA n (by simp);have h2:=h.t0 n hnr.1 hnr.2;obtain⟨vs,hw⟩:=h.att n hnr.1 hnr.2 (by omega);have hlow:=hw.low' hp
  have hneg : -(400*4503599627370496)≤H8 L:=by
   have:∀L':List Lk,(∀l∈L',-M≤l.2.2)→-((L'.length:Int)*M)≤H8 L':=by
    intro L'
    induction L' with
    |nil=>intro _; simp[H8,G7]
    |cons l t ih =>
     intro hh;have i1:=ih fun l hl=>hh l (by simp[hl]);have i2:=hh l (by simp);have i3:=hL.m0;unfold H8 at i1 ⊢;simp only[G7,if_true,List.length_cons,Int.natCast_succ,Int.add_mul,Int.one_mul];omega
   have h3:=this L fun l hl=>(hL.most l hl).1;have h4:(L.length:Int)*M≤400*4503599627370496:=fQ (by have:=hL.len; omega) hL.m1 hL.m0 (by omega);omega
  have hrl:rest.length≤1000000:=by
   have:=X0 N (n::rest) h.nodup h.rng;simp only[cS] at this;omega
  refine .inr ?_
  have hw':(w.set n.toNat false).length=N:=by rw[eW]; exact h.lw
  cases hr:pD n (H8 L) L x (w.set n.toNat false) rest with
  |mk b r' =>
  obtain⟨x',w',q'⟩:=r'
  cases b with
  |false =>
   exfalso;obtain⟨v,m,g1,g2⟩:=nz hL.noloop (fun l hl=>(hL.inr l hl).2.1) hnr.1 hr;have:=(hw.step g1).low' hp;omega
  |true =>
   have hnd:=h.nodup;rw[eX] at hnd
   have ha:=km hnr hL.inr hL.noloop h.lx hw' hnd.2 (fun v h0 h1=>by
    rw[XB hnr.1 h0 (by have:=h.lw; omega)]
    by_cases hv:v=n
    ·subst hv; simp[hnd.1]
    ·rw[if_neg hv,h.waits v h0 h1]
     simp[hv]) hr
   rw[hrest] at ha;obtain⟨B',hB'⟩:=h.step hL hNM hp hS ha;refine⟨(x',w',t.set n.toNat (gv t n+1),q'),⟨k,A',B',hB'⟩,Ux (by have:=h.lt; omega) (by omega),fun kn=>?_⟩;have hF:ş=1152921504606846976:=rfl
   rw[Yf hL hnr h.lx h.lw h.lt hrl (by constructor<;>omega) (by constructor<;>omega),if_neg (by omega),hr]
end
def I4 (f:Lk→Bool):∀(L L':List Lk),G7 f (L++L')=G7 f L+G7 f L'
 |[],L'=>by simp[G7]
 |l::t,L'=>by
  simp only[eO,G7,I4 f t L'];omega
def Te {L:List Lk} {i:Nat} {l:Lk} (h:L[i]?=some l):H8 (L.take (i+1))=H8 (L.take i)+min l.2.2 0:=by
 rw[take_succ h,H8,H8,I4];simp[G7]
def imin0 (e:Int):Yv e 0=min e 0:=by
 unfold Yv
 split<;>omega
def VT {L:List Lk} {M:Int} (h:∀l∈L,-M≤l.2.2) (hM:0≤M) : -((L.length:Int)*M)≤H8 L:=by
 induction L with
 |nil=>simp[H8,G7]
 |cons l t ih =>
  have i1:=ih fun l hl=>h l (by simp[hl]);have i2:=h l (by simp);unfold H8 at i1 ⊢;simp only[G7,if_true,List.length_cons,Int.natCast_succ,Int.add_mul,Int.one_mul];omega
def agF (L:List Lk):H8 L≤0:=ug _ L
section
variable {ρ:Type} {L:List Lk} {N:Nat} {M:Int}
def Ys (hL:iw L N M) (k0:Int→Option ρ):Ê (fun(v75:Val Ä) kk78=>gS L (Ø L) v75.1 v75.2 (fun u76 u77=>kk78 (u76,u77)) k0) ((0:Int),(0:Int))=k0 (H8 L):=by
 refine ĕ (fun x:Int×Int=>∃i:Nat,i≤L.length∧x=(H8 (L.take i),(i:Int))) (fun x=>L.length-x.2.toNat) ?_ ⟨0,by omega,rfl⟩;rintro x ⟨i,hi,rfl⟩;have hlen:=hL.len;rcases cZ i L.length with h|h
 ·have hl:L[i]?=some L[i]:=cE h;refine .inr ⟨(H8 (L.take (i+1)),(i:Int)+1),⟨i+1,h,by simp⟩,by simp; omega,fun kn=>?_⟩
  try dsimp only
  unfold gS
  have hb:∀j,j≤L.length→-(400*4503599627370496)≤H8 (L.take j):=by
   intro j hj;have h1:=VT (L:=L.take j) (fun l hl=>(hL.most l (fN hl)).1) hL.m0;have h2:((L.take j).length:Int)*M≤400*4503599627370496:=fQ (by rw[cY]; omega) hL.m1 hL.m0 (by omega);omega
  have h1:=hb i hi;have h2:=hb (i+1) h;have h3:=agF (L.take i);rw[Te hl] at h2;rw[Ò h,É hl,imin0,Ô (by omega) (by omega),Ë h (by omega),Te hl]
 ·refine .inl fun kn=>?_
  have:i=L.length:=by omega
  subst this
  try dsimp only
  unfold gS;rw[â,List.take_length]
def aa8 {x:List Int} (hx:x.length=N) (hN:N≤1000) {r:Option ρ} (k0:(Val (.pair (.slice .bool) (.slice tI)))→Option ρ)
 (hK:∀(w:List Bool) (q:List Int),w.length=N→q.Nodup→(∀v∈q,0≤v∧v<N)→(∀v:Int,0≤v→v<N→(wv w v=true↔v∈q))→(∀v:Int,0≤v→v<N→(v∈q↔gv x v≠ş))→k0 (w,q)=r) :
 Ê (fun(v70:(Val (.pair tI (.pair (.slice .bool) (.slice tI))))) kk74=>Ŗ (N:Int) x v70.1 v70.2.1 v70.2.2 (fun u71 u72 u73=>kk74 (u71,u72,u73)) k0) ((0:Int),(List.replicate N false),([]:List Int))=r:=by
 refine ĕ (fun s:Int×List Bool×List Int=>∃i:Nat,i≤N∧s.1=i∧s.2.1.length=N∧s.2.2.Nodup∧s.2.2.length≤i∧(∀v∈s.2.2,0≤v∧v<i)∧(∀v:Int,0≤v→v<N→(wv s.2.1 v=true↔v∈s.2.2))∧(∀v:Int,0≤v→v<i→(v∈s.2.2↔gv x v≠ş))) (fun s=>N-s.1.toNat) ?_
  ⟨0,by omega,rfl,by simp,by simp,by simp,by simp,fun v h0 h1=>?_,fun v h0 h1=>by omega⟩
 ·rintro⟨s,w,q⟩ ⟨i,hi,h1,h2,h3,h4,h5,h6,h7⟩;simp only at h1 h2 h3 h4 h5 h6 h7;subst h1;rcases cZ i N with h|h
  ·refine .inr ?_
   have hix:i<x.length:=by omega
   have hiw:i<w.length:=by omega
   have hnq:((i:Int))∉q:=fun hc=>by have:=(h5 _ hc).2; omega
   by_cases hf:gv x i=ş
   ·refine⟨((i:Int)+1,w,q),⟨i+1,h,by simp,h2,h3,by simp only; omega,fun v hv=>⟨(h5 v hv).1,by have:=(h5 v hv).2; push_cast; omega⟩,h6,fun v h0 h1=>?_⟩,by simp; omega,fun kn=>?_⟩
    ·by_cases hv:v=i
     ·subst hv; simp[hf,hnq]
     ·exact h7 v h0 (by push_cast at h1; omega)
    ·try dsimp only
     unfold Ŗ
     have e:ilt (i:Int) (N:Int)=true:=by simp[ilt,h]
     rw[Ù e,Ī hix,j6 (by simpa using hix)]
     have e2:ine (gv x i) 1152921504606846976=false:=by simp[ine,hf]
     rw[Î e2,Ë h (by omega)]
   ·refine⟨((i:Int)+1,w.set i true,q++[(i:Int)]),⟨i+1,h,by simp,by simpa using h2,?_,by simp; omega,fun v hv=>?_,fun v h0 h1=>?_,fun v h0 h1=>?_⟩,by simp; omega,fun kn=>?_⟩
    ·rw[List.nodup_append];exact⟨h3,by simp,fun a ha b hb=>by simp at hb; subst hb; exact fun e=>hnq (e▸ha)⟩
    ·rcases cJ.1 hv with hv|hv
     ·exact⟨(h5 v hv).1,by have:=(h5 v hv).2; push_cast; omega⟩
     ·simp at hv; subst hv; push_cast; omega
    ·have:=XB (w:=w) (u:=(i:Int)) (by omega) h0 (by simpa using hiw) true;rw[cT] at this;show wv (w.set i true) v=true↔v∈q++[(i:Int)];rw[this]
     by_cases hv:v=i
     ·simp[hv]
     ·simp only[hv,if_false,cJ,cO,or_false];exact h6 v h0 h1
    ·show v∈q++[(i:Int)]↔_
     by_cases hv:v=i
     ·subst hv; simp[hf]
     ·simp only[cJ,cO,hv,or_false];exact h7 v h0 (by push_cast at h1; omega)
    ·try dsimp only
     unfold Ŗ
     have e:ilt (i:Int) (N:Int)=true:=by simp[ilt,h]
     rw[Ù e,Ī hix,j6 (by simpa using hix)]
     have e2:ine (gv x i) 1152921504606846976=true:=by simp[ine,hf]
     rw[Ù e2,Ó (by simp only[dH]; omega),Am.iff_true,Ī hiw,PF (by simpa using hiw),Ë h (by omega),cT]
  ·refine .inl fun kn=>?_
   have:i=N:=by omega
   subst this
   try dsimp only
   unfold Ŗ
   have e:ilt (i:Int) (i:Int)=false:=by simp[ilt]
   rw[Î e];exact hK w q h2 h3 h5 h6 h7
 ·have:wv (List.replicate N false) v=false:=by
   unfold wv;rw[List.getElem?_replicate]
   split<;>rfl
  simp[this]
def NP (hL:iw L N M) (hN:1≤N) {S:Int→Bool} (hS:∀v,S v=true→0≤v∧v<N) {w:List Bool} {q:List Int} (hw:w.length=N) (hq:q.Nodup) (hr:∀v∈q,0≤v∧v<N) (hwq:∀v:Int,0≤v→v<N→(wv w v=true↔v∈q)) (hqs:∀v:Int,0≤v→v<N→(v∈q↔gv (tY S N) v≠ş)) :
 aaE L (fun v=>S v=true) N M 0 q [] (tY S N) w (List.replicate N 0) q:=by
 have ht:∀v:Int,0≤v→v<N→gv (List.replicate N (0:Int)) v=0:=by
  intro v h0 h1;unfold gv;rw[List.getElem?_replicate]
  split<;>rfl
 have hg:∀v:Int,0≤v→v<N→(v∈q↔S v=true):=by
  intro v h0 h1;rw[hqs v h0 h1,iG S h0 h1]
  cases S v<;>simp[ş]
 have hM:=hL.m0;refine⟨by simp,č S N,hw,by simp,hq,hr,hwq,fun v h0 h1=>?_,fun v hv=>?_,fun vs v d hw hl=>?_,fun vs u d hw hl hu v m hlk=>?_,fun u h0 h1 hu hf v m hlk=>?_,fun v h0 h1 hf=>?_,fun v h0 h1=>?_,fun v hv=>?_,fun v hv=>?_,by omega,fun _=>rfl⟩
 ·rw[ht v h0 h1]; omega
 ·have:=hr v hv;rw[ht v this.1 this.2]; omega
 ·cases hw with
  |nil hs =>
   have:=hS v hs;rw[iG S this.1 this.2,if_pos hs]; omega
  |step=>simp at hl
 ·cases hw with
  |nil hs =>
   have:=hS u hs;exact(hu ((hg u this.1 this.2).2 hs)).elim
  |step=>simp at hl
 ·rw[iG S h0 h1] at hf;have:=mt (hg u h0 h1).2 hu;rw[if_neg this] at hf;exact(hf rfl).elim
 ·rw[iG S h0 h1] at hf ⊢
  split at hf
  ·rename_i hs;rw[if_pos hs]; exact⟨[],.nil hs⟩
  ·exact(hf rfl).elim
 ·rw[iG S h0 h1]
  split
  ·exact .inr (by simp[hM])
  ·exact .inl rfl
 ·have h1:=hr v hv;rw[iG S h1.1 h1.2,if_pos ((hg v h1.1 h1.2).1 hv)]; simp
 ·have h1:=hr v hv;rw[iG S h1.1 h1.2,if_pos ((hg v h1.1 h1.2).1 hv)]; simp[ş]
structure Bad (L:List Lk) (N:Nat) (x:List Int) (w:List Bool) (t q:List Int):Prop where
 lx:x.length=N
 lw:w.length=N
 lt:t.length=N
 nodup:q.Nodup
 rng:∀v∈q,0≤v∧v<N
 waits:∀v:Int,0≤v→v<N→(wv w v=true↔v∈q)
 t0:∀v:Int,0≤v→v<N→0≤gv t v∧gv t v≤(N:Int)+1
 bd:∀v:Int,0≤v→v<N→-2305843009213693952≤gv x v∧gv x v≤0
 rel:∀u:Int,0≤u→u<N→u∉q→∀v m,(u,v,m)∈L→gv x v≤gv x u+m
def ad6 {r:Option ρ} {x:List Int} {w:List Bool} {t q:List Int} (hL:iw L N M) (hp:¬∃p,Pot L p) (k0:(Val (.pair .bool (.pair (.slice tI) (.pair (.slice .bool) (.pair (.slice tI) (.slice tI))))))→Option ρ)
 (hK:∀x w t q,k0 (false,x,w,t,q)=r) (h:Bad L N x w t q) :
 Ê (fun(v64:(Val (.pair (.slice tI) (.pair (.slice .bool) (.pair (.slice tI) (.slice tI)))))) kk69=>ĩ [] (H8 L) (N:Int) L v64.1 v64.2.1 v64.2.2.1 v64.2.2.2 (fun u65 u66 u67 u68=>kk69 (u65,u66,u67,u68)) k0) (x,w,t,q)=r:=by
 refine ĕ (fun s:List Int×List Bool×List Int×List Int=>Bad L N s.1 s.2.1 s.2.2.1 s.2.2.2) (fun s=>Q8 N s.2.2.1) ?_ h;rintro⟨x,w,t,q⟩ h;dsimp only at h ⊢;have hN:=hL.nodes
 cases q with
 |nil =>
  exfalso;exact hp ⟨gv x,fun u v m hl=>h.rel u (hL.inr _ hl).1.1 (hL.inr _ hl).1.2 (by simp) v m hl⟩
 |cons n rest =>
  have hnr:=h.rng n (by simp);have hb:=h.bd n hnr.1 hnr.2;have ht:=h.t0 n hnr.1 hnr.2
  have hrl:rest.length≤1000000:=by
   have:=X0 N (n::rest) h.nodup h.rng;simp only[cS] at this;omega
  have hout:=fun(kn:List Int→List Bool→List Int→List Int→Option ρ)=>Yf (ρ:=ρ) hL (least:=H8 L) hnr h.lx h.lw h.lt hrl ⟨hb.1,by omega⟩ ⟨ht.1,by omega⟩ kn k0
  by_cases hlt:(N:Int)+1<gv t n+1
  ·exact .inl fun kn=>by rw[hout,if_pos hlt]; exact hK _ _ _ _
  ·have hw':(w.set n.toNat false).length=N:=by rw[eW]; exact h.lw
   cases hr:pD n (H8 L) L x (w.set n.toNat false) rest with
   |mk b r' =>
   obtain⟨x',w',q'⟩:=r'
   cases b with
   |false=>exact .inl fun kn=>by rw[hout,if_neg hlt,hr]; exact hK _ _ _ _
   |true =>
    have hnd:=h.nodup;rw[eX] at hnd
    have htl:n.toNat<t.length:=by have:=h.lt; omega
    have ha:=km hnr hL.inr hL.noloop h.lx hw' hnd.2 (fun v h0 h1=>by
     rw[XB hnr.1 h0 (by have:=h.lw; omega)]
     by_cases hv:v=n
     ·subst hv; simp[hnd.1]
     ·rw[if_neg hv,h.waits v h0 h1]
      simp[hv]) hr
    obtain⟨l,hl,hlv⟩:=ha.new;refine .inr ⟨(x',w',t.set n.toNat (gv t n+1),q'),⟨ha.lx,ha.lw,by rw[eW]; exact h.lt,ha.nodup,fun v hv=>?_,ha.waits,fun v h0 h1=>?_,fun v h0 h1=>?_,fun u h0 h1 hu v m hlk=>?_⟩,Ux htl (by omega),fun kn=>by rw[hout,if_neg hlt,hr]⟩
    ·dsimp only at hv;rw[hl] at hv;rcases List.mem_append.1 hv with hv|hv
     ·exact h.rng v (by simp[hv])
     ·exact(hlv v hv).1
    ·try dsimp only
     rw[rk hnr.1 h0 htl];have:=h.t0 v h0 h1
     split<;>omega
    ·try dsimp only
     have h2:=h.bd v h0 h1;rcases ha.chg v h0 h1 with g|⟨_,g2,m,g3,g4,g5⟩
     ·rw[g]; exact h2
     ·have h3:=VT (L:=L) (fun l hl=>(hL.most l hl).1) hL.m0;have h4:(L.length:Int)*M≤400*4503599627370496:=fQ (by have:=hL.len; omega) hL.m1 hL.m0 (by omega);omega
    ·dsimp only at hu ⊢;have hvr:=(hL.inr _ hlk).2
     have heq:gv x' u=gv x u:=by
      rcases ha.chg u h0 h1 with g|⟨g,_⟩
      ·exact g
      ·exact(hu g).elim
     by_cases hun:u=n
     ·subst hun;have h1:=ha.link v m hlk;omega
     ·have hur:u∉n::rest:=by
       intro hc;rcases cM.1 hc with e|hc
       ·exact hun e
       ·exact hu (by rw[hl]; exact dA _ hc)
      have h2:=h.rel u h0 h1 hur v m hlk;have:=ha.le v hvr.1 hvr.2;omega
end
def aaD (N:Nat) (v:Int):Bool:=decide (0≤v)&&decide (v<(N:Int))
def adT (s:Int) (v:Int):Bool:=v==s
def Sl (N:Nat):tY (aaD N) N=List.replicate N 0:=by
 refine Yx (by simp[č]) fun v h0 h1=>?_;rw[č] at h1;rw[iG _ h0 h1]
 have:aaD N v=true:=by simp[aaD,h0,h1]
 rw[if_pos this];unfold gv;rw[List.getElem?_replicate]
 split<;>rfl
def iH (L:List Lk) (N:Nat):List Int:=ky L N (tY (aaD N) N)
def kF (L:List Lk) (N:Nat):Bool:=decide (G5 L (iH L N)=iH L N)
def yh (L:List Lk) (N:Nat) (s:Int):List Int:=ky L N (tY (adT s) N)
section
variable {L:List Lk} {N:Nat} {M:Int}
def aex (hL:iw L N M) (hN:N≤200):N*M<ş:=by
 have:(N:Int)*M≤200*4503599627370496:=Int.mul_le_mul (by omega) hL.m1 hL.m0 (by omega);unfold ş;omega
def Ey {p:Int→Int} (hL:iw L N M) (hN:N≤200) (hp:Pot L p):aaG L (fun v=>aaD N v=true) N (gv (iH L N)) :=
 IU hp hL.inr (fun v h=>by simpa[aaD] using h) (fun l hl=>(hL.most l hl).2) hL.m0 (aex hL hN) N (by omega)
def BL {p:Int→Int} (hL:iw L N M) (hN:N≤200) (hp:Pot L p) {s:Int} (hs:0≤s∧s<N):aaG L (fun v=>adT s v=true) N (gv (yh L N s)) :=
 IU hp hL.inr (fun v h=>by simp[adT] at h; subst h; exact hs) (fun l hl=>(hL.most l hl).2) hL.m0 (aex hL hN) N (by omega)
def SM:∀{L:List Lk} {x:List Int},(∀u v m,(u,v,m)∈L→gv x u<ş→gv x v≤gv x u+m)→G5 L x=x
 |[],x,_=>rfl
 |l::t,x,h=>by
  have h1:lL x l=x:=by
   unfold lL
   split
   ·rename_i hc;have:=h l.1 l.2.1 l.2.2 (by simp) hc.1;omega
   ·rfl
  show G5 t (lL x l)=x;rw[h1];exact SM fun u v m hm=>h u v m (by simp[hm])
def kE (hL:iw L N M) (hN:N≤200):kF L N=true↔∃p,Pot L p:=by
 unfold kF;rw[decide_eq_true_eq]
 have hle:∀v:Int,0≤v→v<N→gv (iH L N) v≤0:=by
  intro v h0 h1;have:=B6 hL.inr N (č (aaD N) N) v h0;rw[iG _ h0 h1,if_pos (by simp[aaD,h0,h1])] at this;exact this
 constructor
 ·intro h;refine⟨gv (iH L N),fun u v m hl=>?_⟩;have hr:=(hL.inr _ hl).1;have:=EG hL.inr (x:=iH L N) (by unfold iH; rw[Ţ,č]) u v m hl (by have:=hle u hr.1 hr.2; unfold ş; omega)
  rwa [h] at this
 ·rintro⟨p,hp⟩;have hd:=Ey hL hN hp;exact SM fun u v m hl hf=>hd.pot hL.inr hl (by omega)
end
section
variable {ρ:Type} {L:List Lk} {N:Nat} {M:Int}
def DP (hN:N≤1000) (x:Option ρ):ß ((ile (0:Int) (N:Int))&&(æ (Int.toNat (N:Int)))) x=x:=by
 rw[cT,Ó (by omega)]
 have:((ile (0:Int) (N:Int))&&true)=true:=by simp[ile]
 rw[this,Am.iff_true]
def VI (hL:iw L N M) (h1:1≤N) (hN:N≤200) (k0:(Val (.pair .bool (.pair (.slice tI) (.pair (.slice .bool) (.pair (.slice tI) (.slice tI))))))→Option ρ) {rT rF:Option ρ}
 (hT:kF L N=true→∀w t q,k0 (true,iH L N,w,t,q)=rT) (hF:∀x w t q,k0 (false,x,w,t,q)=rF) :
 (Ê (fun(v70:(Val (.pair tI (.pair (.slice .bool) (.slice tI))))) kk74=>Ŗ (N:Int) (List.replicate N (0:Int)) v70.1 v70.2.1 v70.2.2 (fun u71 u72 u73=>kk74 (u71,u72,u73)) (fun z9=>Ê (fun(v64:(Val (.pair (.slice tI) (.pair (.slice .bool) (.pair (.slice tI) (.slice tI)))))) kk69=>ĩ [] (H8 L) (N:Int) L v64.1 v64.2.1 v64.2.2.1 v64.2.2.2 (fun u65 u66 u67 u68=>kk69 (u65,u66,u67,u68)) k0) ((List.replicate N (0:Int)),z9.1,(List.replicate N (0:Int)),z9.2))) ((0:Int),(List.replicate N false),([]:List Int)))=if kF L N then rT else rF:=by
 refine aa8 (by simp) (by omega) _ fun w q hw hq hr hwq hqs=>?_
 try dsimp only
 have hS:∀v,aaD N v=true→0≤v∧v<N:=fun v h=>by simpa[aaD] using h
 by_cases ho:kF L N=true
 ·rw[if_pos ho];obtain⟨p,hp⟩:=(kE hL hN).1 ho;have hs:=NP hL h1 hS hw hq hr hwq (fun v a b=>by rw[Sl]; exact hqs v a b);rw[Sl] at hs;refine Sn hL (aex hL hN) hp hS k0 (fun x w t q hx hd=>?_) hs
  have:x=iH L N:=by
   refine Yx (by rw[hx]; unfold iH; rw[Ţ,č]) fun v a b=>?_;exact hd.uniq (Ey hL hN hp) a (by omega)
  rw[this]; exact hT ho w t q
 ·rw[if_neg ho];refine ad6 hL (fun hp=>ho ((kE hL hN).2 hp)) k0 hF ?_
  have hg:∀v,gv (List.replicate N (0:Int)) v=0:=by
   intro v;unfold gv;rw[List.getElem?_replicate]
   split<;>rfl
  refine⟨by simp,hw,by simp,hq,hr,hwq,fun v a b=>?_,fun v a b=>?_,fun u a b hu v m hl=>?_⟩
  ·rw[hg]; omega
  ·rw[hg]; omega
  ·exact(hu ((hqs u a b).2 (by rw[hg]; unfold ş; omega))).elim
end
def shift_ok {ρ:Type} {x:List Int} (f:Int) (hx:x.length≤1000) (hf : -2305843009213693952≤f∧f≤2305843009213693952) (hb:∀a∈x,-2305843009213693952≤a∧a≤2305843009213693952) (k0:List Int→Option ρ) :
 Ê (fun(v60:(Val (.pair tI (.slice tI)))) kk63=>iU f (Ø x) v60.1 v60.2 (fun u61 u62=>kk63 (u61,u62)) k0) ((0:Int),x)=k0 (x.map fun a=>a-f):=by
 refine ġ x (fun i=>(x.take i).map (fun a=>a-f)++x.drop i) _ (by simp) (fun i a hi ha kn=>?_) (fun kn=>?_)
 ·try dsimp only
  unfold iU
  have hlen:((x.take i).map (fun a=>a-f)++x.drop i).length=x.length:=by simp; omega
  have hget:((x.take i).map (fun a=>a-f)++x.drop i)[i]?=some a:=by
   rw[fK (by simp; omega)];simp only[dE,cY,dV];rw[←ha]; congr 1; omega
  have hi':i<((x.take i).map (fun a=>a-f)++x.drop i).length:=by omega
  have ha':=hb a (cN ha);rw[Ò hi,Ī hi',ò hget,Ô (by omega) (by omega),Ī hi',ò hget,Ë hi (by omega),cT,take_succ ha];congr 2;rw[dB hi,fo,cP,f9 _ _ (by simp; omega)]
  have:i-(List.map (fun a=>a-f) (List.take i x)).length=0:=by simp; omega
  rw[this]
  have h1:x[i]=a:=by rw[cE hi] at ha; simpa using ha
  simp[h1]
 ·try dsimp only
  unfold iU;rw[â];simp
section
variable {L:List Lk} {N:Nat} {M:Int}
def ad9 (hL:iw L N M) (hN:N≤200) (ho:kF L N=true):∀a∈iH L N,-2305843009213693952≤a∧a≤0:=by
 obtain⟨p,hp⟩:=(kE hL hN).1 ho;have hd:=Ey hL hN hp;intro a ha;obtain⟨i,hi,rfl⟩:=cR.1 ha
 have hlen:(iH L N).length=N:=by unfold iH; rw[Ţ,č]
 have h0:gv (iH L N) i=(iH L N)[i]:=by unfold gv; simp[hi]
 have hle:=B6 hL.inr N (č (aaD N) N) (i:Int) (by omega);rw[iG _ (by omega) (by omega),if_pos (by simp[aaD]; omega)] at hle;have hle':gv (iH L N) i≤0:=hle;obtain⟨vs,hw⟩:=hd.att i (by omega) (by omega) (by unfold ş; omega);have h1:=hw.low' hp;have h3:=VT (L:=L) (fun l hl=>(hL.most l hl).1) hL.m0;have h4:(L.length:Int)*M≤400*4503599627370496:=Int.mul_le_mul (by have:=hL.len; omega) hL.m1 hL.m0 (by omega);omega
def solP (L:List Lk) (N:Nat):List Int:=(iH L N).map fun a=>a-gv (iH L N) 0
def tZ (hL:iw L N M) (h1:1≤N) (hN:N≤200):kp ((N:Int),L) []=some (if kF L N then(solP L N,true) else([],false)):=by
 unfold kp xr
 try dsimp only
 rw[DP (by omega),DP (by omega),DP (by omega),cT];refine eI (Ys hL _) ?_;refine eI (VI hL h1 hN _ (rT:=some (solP L N,true)) (rF:=some ([],false)) (fun ho w t q=>?_) (fun x w t q=>?_)) ?_
 ·try dsimp only
  have hlen:(iH L N).length=N:=by unfold iH; rw[Ţ,č]
  have hb:=ad9 hL hN ho;have h0:ilt (0:Int) (ì (iH L N))=true:=decide_eq_true (show(0:Int)<((iH L N).length:Int) by omega);have hg:(iH L N)[0]?=some (gv (iH L N) 0):=Yw (v:=0) (show 0<_ by omega);have hm:=hb _ (cN hg);rw[show(!true)=false from rfl,é,ð h0,iJ hg];exact shift_ok _ (by omega) ⟨hm.1,by omega⟩ (fun a ha=>⟨(hb a ha).1,by have:=(hb a ha).2; omega⟩) _
 ·rfl
 ·cases kF L N<;>rfl
structure jm (L:List Lk) (N:Nat):Prop where
 n1:1≤N
 n60:N≤60
 len:L.length≤300
 inr:InR L N
 noloop:∀l∈L,l.1≠l.2.1
 most:∀l∈L,-4503599627370496≤l.2.2∧l.2.2≤4503599627370496
def jm.links (h:jm L N):iw L N 4503599627370496 :=
 ⟨h.inr,h.noloop,h.most,by have:=h.len; omega,by have:=h.n60; omega,by omega,by omega⟩
def VS (n:Int) (L:List Lk) (v:Int):yM (n,L) v=some (decide (0≤v)&&decide (v<n)):=by
 unfold yM Qg ige
 by_cases h:0≤v
 ·have:decide (v≥0)=true:=by simpa using h
  rw[Ù this]; simp[h]
 ·have:decide (v≥0)=false:=by simpa using h
  rw[Î this]; simp[h]
def lC (h:jm L N):pI ((N:Int),L)=some (0,-1):=by
 have h1:=h.n1;have h2:=h.n60;have h3:=h.len;unfold pI J9
 try dsimp only
 rw[Î (by simp[ilt]; omega),Î (by simp[igt]; omega),Î (by rw[Ñ]; simp[igt]; omega)];refine eI (iX L (fun _=>false) (fun i=>some (1,i)) (some (0,-1)) (fun i l hi hl kn=>?_) (fun kn=>?_)) ?_
 ·try dsimp only
  unfold qR;have hm:=List.mem_of_getElem? hl;have a:=h.inr l hm;have b:=h.noloop l hm;have c:=h.most l hm
  have e1:(decide (0≤l.1)&&decide (l.1<(N:Int)))=true:=by simp[a.1.1,a.1.2]
  have e2:(decide (0≤l.2.1)&&decide (l.2.1<(N:Int)))=true:=by simp[a.2.1,a.2.2]
  rw[Ò hi,É hl,VS,À,e1,VS,À,e2];simp only[dz,é,cV,if_false];rw[Î (by simp[ieq,b]),Î (by simp[ilt]; omega),Î (by simp[igt]; omega),Ë hi (by omega)]
 ·try dsimp only
  unfold qR;rw[â]
 ·rw[dC.2 (by simp)]
def vk {ρ:Type} {x:List Int} {v:Int} (h0:0≤v) (h:v.toNat<x.length) (f:Int→Option ρ):Ĭ x v f=f (gv x v):=by
 obtain⟨i,rfl⟩:=gH h0;exact É (Yw h) f
end
section
variable {b:ę}
def vw (b:ę) (g:Ā):(è b g).Pairwise (·<·):=VD _
def UL (h:Φ b) {g:Ā} (hg:g∈b.2.1):∃t,è b g=g.2.1::t:=by
 have h1:=vw b g;have h2:=ru (b:=b) g;have h3:∀d∈è b g,g.2.1≤d:=fun d hd=>(h.day hg hd).1
 cases hd:è b g with
 |nil=>rw[hd] at h2; cases h2
 |cons a t =>
  rw[hd] at h1 h2 h3;rw[dv] at h1;rcases cM.1 h2 with e|e
  ·exact⟨t,by rw[e]⟩
  ·have:=h1.1 _ e;have:=h3 a (by simp);omega
def off (b:ę) (i:Nat):Nat:=((b.2.1.take i).flatMap fun g=>(è b g).map fun d=>((g.1,d):Int×Int)).length
def AU {i:Nat} {g:Ā} (hg:b.2.1[i]?=some g):Ú b=((b.2.1.take i).flatMap fun g=>(è b g).map fun d=>((g.1,d):Int×Int))++(((è b g).map fun d=>((g.1,d):Int×Int))++((b.2.1.drop (i+1)).flatMap fun g=>(è b g).map fun d=>((g.1,d):Int×Int))):=by
 obtain⟨hi,rfl⟩:=cH.1 hg
 have h1:b.2.1=b.2.1.take i++(b.2.1[i]::b.2.1.drop (i+1)):=by
  rw[←dB hi,dP]
 unfold Ú
 conv=>lhs; rw[h1]
 rw[fC,dD]
def PE (h:Φ b) {i:Nat} {g:Ā} (hg:b.2.1[i]?=some g) {k:Nat} {d:Int} (hk:(è b g)[k]?=some d):jx (Ú b) g.1 d=some (off b i+k):=by
 obtain⟨hi,hgi⟩:=List.getElem?_eq_some_iff.1 hg;obtain⟨hkl,hkd⟩:=List.getElem?_eq_some_iff.1 hk;unfold jx;rw[AU hg,List.findIdx?_append,List.findIdx?_append]
 have h1:List.findIdx? (fun n:Int×Int=>decide (g.1=n.1)&&decide (d=n.2)) ((b.2.1.take i).flatMap fun g=>(è b g).map fun d=>((g.1,d):Int×Int))=none:=by
  rw[dC];intro x hx;obtain⟨g',hg',hx⟩:=dt.1 hx;obtain⟨d',_,rfl⟩:=dj.1 hx;obtain⟨j,hj,rfl⟩:=cR.1 hg';rw[cY] at hj;rw[eQ];have:=(dm.1 h.ids) j i (by omega) hi (by omega);rw[hgi] at this;simp only[Bool.and_eq_false_iff,decide_eq_false_iff_not];exact .inl (by omega)
 have h2:List.findIdx? (fun n:Int×Int=>decide (g.1=n.1)&&decide (d=n.2)) ((è b g).map fun d=>((g.1,d):Int×Int))=some k:=by
  rw[dF];refine⟨by simpa using hkl,by simp[hkd],fun j hj=>?_⟩;have:=(dm.1 (vw b g)) j k (by omega) hkl hj;rw[hkd] at this;simp only[List.getElem_map,cG,decide_eq_true_eq,not_and];intro _;omega
 rw[h1,h2];simp only[Option.map_some,Option.some_or,Option.none_or];unfold off;congr 1;omega
def aeu {i:Nat} {g:Ā} (hg:b.2.1[i]?=some g) {k:Nat} {d:Int} (hk:(è b g)[k]?=some d):(Ú b)[off b i+k]?=some (g.1,d):=by
 obtain⟨hkl,hkd⟩:=List.getElem?_eq_some_iff.1 hk;rw[AU hg,List.getElem?_append_right (by unfold off; omega),List.getElem?_append_left (by unfold off; simp; omega)];unfold off;simp[hk]
def afr (h:Φ b) {i:Nat} {g:Ā} (hg:b.2.1[i]?=some g):atP (Ú b) [g.1] g.2.1=(off b i:Int)+1:=by
 obtain⟨t,ht⟩:=UL h (List.mem_of_getElem? hg);have:=PE h hg (k:=0) (d:=g.2.1) (by rw[ht]; rfl);unfold atP;simp only[this];rfl
def agC (h:Φ b) {i:Nat} {g:Ā} (hg:b.2.1[i]?=some g):off b i+(è b g).length≤(Ú b).length:=by
 rw[AU hg];unfold off;simp only[List.length_append,List.length_map];omega
def aes {i:Nat} {g:Ā} (hg:b.2.1[i]?=some g):off b (i+1)=off b i+(è b g).length:=by
 unfold off;rw[take_succ hg,List.flatMap_append];simp
def Tc (h:Φ b) {c:Cmp} (hc:c∈b.2.2.2.2.1) {x:Int} (hx:(x∈c.2.2.1∧x∉c.2.2.2.1)∨(x∈c.2.2.2.1∧x∉c.2.2.1)):∃j,jx (Ú b) x c.2.1=some j:=by
 have hm:x∈c.2.2.1++c.2.2.2.1:=by rw[cJ]; exact hx.imp (·.1) (·.1)
 obtain⟨⟨g,hg,_⟩,_⟩:=h.pile hc hm;obtain⟨hgm,hgx⟩:=iZ hg;obtain⟨i,hi,hgi⟩:=cR.1 hgm
 have hd:c.2.1∈è b g:=gX.2 (.inr (.inl ⟨c,hc,by
  rw[hgx];rcases hx with⟨h1,h2⟩|⟨h1,h2⟩
  ·have e1:c.2.2.1.contains x=true:=by simpa using h1
   have e2:c.2.2.2.1.contains x=false:=by simpa using h2
   rw[e1,e2]; simp
  ·have e1:c.2.2.2.1.contains x=true:=by simpa using h1
   have e2:c.2.2.1.contains x=false:=by simpa using h2
   rw[e1,e2]; simp,rfl⟩))
 obtain⟨k,hk,hkd⟩:=cR.1 hd;have:=PE h (g:=g) (i:=i) (by rw[cE hi,hgi]) (k:=k) (d:=c.2.1) (by rw[cE hk,hkd]);rw[hgx] at this;exact⟨_,this⟩
inductive aaA (b:ę) (p:List Int) (d:Int) (n:Int):Prop
 |none:p=[]→n=0→aaA b p d n
 |one (x:Int) (j:Nat):p=[x]→jx (Ú b) x d=some j→n=(j:Int)+1→aaA b p d n
def acX (h:Φ b) {c:Cmp} (hc:c∈b.2.2.2.2.1):aaA b (ÿ c.2.2.1 c.2.2.2.1) c.2.1 (cx b c):=by
 have hl:=(h.lefts hc).1
 cases hp:ÿ c.2.2.1 c.2.2.2.1 with
 |nil=>exact .none rfl (by unfold cx atP; rw[hp])
 |cons x t =>
  rw[hp] at hl
  have:t=[]:=by cases t with|nil=>rfl|cons=>simp at hl
  subst this;obtain⟨j,hj⟩:=Tc h hc (x:=x) (.inl (nA.1 (by rw[hp]; simp)));exact .one x j rfl hj (by unfold cx atP; rw[hp]; simp only[hj])
def Xc (h:Φ b) {c:Cmp} (hc:c∈b.2.2.2.2.1):aaA b (ÿ c.2.2.2.1 c.2.2.1) c.2.1 (cy b c):=by
 have hl:=(h.lefts hc).2.1
 cases hp:ÿ c.2.2.2.1 c.2.2.1 with
 |nil=>exact .none rfl (by unfold cy atP; rw[hp])
 |cons x t =>
  rw[hp] at hl
  have:t=[]:=by cases t with|nil=>rfl|cons=>simp at hl
  subst this;obtain⟨j,hj⟩:=Tc h hc (x:=x) (.inr (nA.1 (by rw[hp]; simp)));exact .one x j rfl hj (by unfold cy atP; rw[hp]; simp only[hj])
def aaA.rng {p:List Int} {d n:Int} (h:aaA b p d n):0≤n∧n<((Ú b).length+1:Nat):=by
 rcases h with⟨_,h⟩|⟨x,j,_,h1,h2⟩
 ·omega
 ·have:=(kg h1).1;omega
def ae8 (h:Φ b) {c:Cmp} (hc:c∈b.2.2.2.2.1):cx b c≠cy b c:=by
 have hl:=(h.lefts hc).2.2;rcases acX h hc with⟨h1,h2⟩|⟨x,j,h1,h2,h3⟩
 ·rcases Xc h hc with⟨g1,g2⟩|⟨y,k,g1,g2,g3⟩
  ·rw[h1,g1] at hl; simp at hl
  ·omega
 ·rcases Xc h hc with⟨g1,g2⟩|⟨y,k,g1,g2,g3⟩
  ·omega
  ·intro e
   have:j=k:=by omega
   subst this;have e1:=(kg h2).2;have e2:=(kg g2).2;rw[e1] at e2;simp only[Option.some.injEq,Prod.mk.injEq] at e2
   have m1:x∈ÿ c.2.2.1 c.2.2.2.1:=by rw[h1]; simp
   have m2:y∈ÿ c.2.2.2.1 c.2.2.1:=by rw[g1]; simp
   rw[e2.1] at m1;exact(nA.1 m1).2 (nA.1 m2).1
def acd (h:Φ b):(iY b).length=2*(Ú b).length+2*b.2.2.2.2.1.length:=by
 have h1:∀l:List Ā,(∀g∈l,g∈b.2.1)→(l.flatMap (Ő b)).length=2*(l.flatMap fun g=>(è b g).map fun d=>((g.1,d):Int×Int)).length:=by
  intro l
  induction l with
  |nil=>intro _; rfl
  |cons g t ih =>
   intro hm;have:=ih fun g hg=>hm g (by simp[hg]);have hp:=List.length_pos_of_mem (ru (b:=b) g);simp only[List.flatMap_cons,List.length_append,List.length_map,this];unfold Ő;rw[List.length_append,oX _ _ (fun _=>rfl)];simp only[List.length_cons,List.length_nil];omega
 have h2:∀l:List Cmp,(l.flatMap (i8 b)).length=2*l.length:=by
  intro l
  induction l with
  |nil=>rfl
  |cons c t ih =>
   simp only[dD,cI,ih,i8,cS,dX];omega
 unfold iY;rw[List.length_append,h1 _ fun _ h=>h,h2];rfl
def ļ (h:Φ b) {i:Nat} {g:Ā} (hg:b.2.1[i]?=some g) {l:Lk}:l∈Ő b g ↔
 l=(0,(off b i:Int)+1,g.2.2.1+g.2.2.2.1.2)∨l=((off b i:Int)+1,0,-(g.2.2.1+g.2.2.2.1.1)) ∨
 ∃(k:Nat) (d e:Int),(è b g)[k]?=some d∧(è b g)[k+1]?=some e∧(l=((off b i:Int)+k+1,(off b i:Int)+k+2,0)∨l=((off b i:Int)+k+2,(off b i:Int)+k+1,jH b g d e)):=by
 unfold Ő;rw[afr h hg];simp only[List.mem_append,List.mem_cons,List.not_mem_nil,or_false,List.mem_flatMap,List.mem_range];constructor
 ·rintro((h1|h1)|⟨k,hk,h1⟩)
  ·exact .inl h1
  ·exact .inr (.inl h1)
  ·refine .inr (.inr ⟨k,(è b g)[k],(è b g)[k+1],cE (by omega),cE (by omega),?_⟩);rw[cE (show k<(è b g).length by omega),cE (show k+1<(è b g).length by omega)] at h1;simp only[gL] at h1
   have e1:(off b i:Int)+1+k=(off b i:Int)+k+1:=by omega
   have e2:(off b i:Int)+k+1+1=(off b i:Int)+k+2:=by omega
   rw[e1,e2] at h1;exact h1
 ·rintro(h1|h1|⟨k,d,e,hd,he,h1⟩)
  ·exact .inl (.inl h1)
  ·exact .inl (.inr h1)
  ·obtain⟨h2,rfl⟩:=cH.1 hd;obtain⟨h3,rfl⟩:=cH.1 he;refine .inr ⟨k,by omega,?_⟩;rw[hd,he];simp only[gL]
   have e1:(off b i:Int)+1+k=(off b i:Int)+k+1:=by omega
   have e2:(off b i:Int)+k+1+1=(off b i:Int)+k+2:=by omega
   rw[e1,e2];exact h1
def oR {l:Lk}:l∈iY b↔(∃(i:Nat) (g:Ā),b.2.1[i]?=some g∧l∈Ő b g)∨∃c∈b.2.2.2.2.1,l=(cy b c,cx b c,(sf b c).2)∨l=(cx b c,cy b c,-(sf b c).1):=by
 unfold iY;simp only[List.mem_append,List.mem_flatMap,i8,List.mem_cons,List.not_mem_nil,or_false];constructor
 ·rintro(⟨g,hg,h⟩|h)
  ·obtain⟨i,hi,rfl⟩:=cR.1 hg;exact .inl ⟨i,_,cE hi,h⟩
  ·exact .inr h
 ·rintro(⟨i,g,hg,h⟩|h)
  ·exact .inl ⟨g,cN hg,h⟩
  ·exact .inr h
def Φ.sys (h:Φ b):jm (iY b) ((Ú b).length+1):=by
 have hN:=h.nodes;have hL:=h.links
 have key:∀l∈iY b,((0≤l.1∧l.1<((Ú b).length+1:Nat))∧(0≤l.2.1∧l.2.1<((Ú b).length+1:Nat)))∧l.1≠l.2.1∧(-4503599627370496≤l.2.2∧l.2.2≤4503599627370496):=by
  intro l hl;rcases oR.1 hl with⟨i,g,hg,hl⟩|⟨c,hc,hl⟩
  ·have hgm:=cN hg;have hr:=h.gaugeR hgm;have ho:=agC h hg;have hp:=List.length_pos_of_mem (ru (b:=b) g);have r1:=hr.2.2.2.2.2.1;have r2:=hr.2.2.2.2.2.2.1;rcases(ļ h hg).1 hl with rfl|rfl|⟨k,d,e,hd,he,h1⟩
   ·dsimp only; omega
   ·dsimp only; omega
   ·obtain⟨h2,_⟩:=cH.1 he;have d1:=h.day hgm (cN hd);have lb:=vf h hgm (t:=e) d1.2.1;rcases h1 with rfl|rfl
    ·dsimp only; omega
    ·dsimp only; omega
  ·have a:=(acX h hc).rng;have b':=(Xc h hc).rng;have ne:=ae8 h hc;have sb:=IH h hc;rcases hl with rfl|rfl
   ·dsimp only; omega
   ·dsimp only; omega
 exact⟨by omega,by omega,by rw[acd h]; omega,fun l hl=>(key l hl).1,fun l hl=>(key l hl).2.1,fun l hl=>(key l hl).2.2⟩
end
def Vt (b:ę) (id day:Int):Bool:=b.2.2.1.any fun u=>u.1==id&&u.2==day
def acU (b:ę) (g:Ā) (d:Int):Int:=match lG b g.1 d with|some l=>l.2.2|none=>if Vt b g.1 d then g.2.2.2.2.2 else 0
def ab6 (l:L8) (id:Int) {f t:Int} (hft:f≤t):(if l.1=id∧0<Ė l f (t+1) then Ė l f (t+1)*l.2.2 else 0)=(if l.1=id∧0<Ė l f t then Ė l f t*l.2.2 else 0)+(if l.1=id∧l.2.1.1≤t∧t≤l.2.1.2 then l.2.2 else 0):=by
 by_cases hid:l.1=id
 ·by_cases h1:l.2.1.1≤t∧t≤l.2.1.2
  ·have e:Ė l f (t+1)=Ė l f t+1:=by unfold Ė; omega
   have p:0≤Ė l f t:=by unfold Ė; omega
   rw[e,if_pos ⟨hid,by omega⟩,if_pos (show l.1=id∧l.2.1.1≤t∧t≤l.2.1.2 from⟨hid,h1⟩),f5,gk]
   by_cases hp:0<Ė l f t
   ·rw[if_pos ⟨hid,hp⟩]
   ·rw[if_neg (fun h=>hp h.2)]
    have:Ė l f t=0:=by omega
    rw[this];omega
  ·rw[if_neg (show ¬(l.1=id∧l.2.1.1≤t∧t≤l.2.1.2) from fun h=>h1 h.2),gE]
   by_cases hlo:l.2.1.1≤t
   ·have e:Ė l f (t+1)=Ė l f t:=by unfold Ė; omega
    rw[e]
   ·have p1:¬0<Ė l f (t+1):=by unfold Ė; omega
    have p2:¬0<Ė l f t:=by unfold Ė; omega
    rw[if_neg (fun h=>p1 h.2),if_neg (fun h=>p2 h.2)]
 ·rw[if_neg (fun h=>hid h.1),if_neg (fun h=>hid h.1),if_neg (fun h=>hid h.1)];rfl
def OC (id:Int) {f t:Int} (hft:f≤t):∀{x:List L8},x.Pairwise (fun a c=>¬(a.1=c.1∧a.2.1.1≤c.2.1.2∧c.2.1.1≤a.2.1.2)) →
 ķ id f (t+1) x=ķ id f t x+(match x.find? (fun l=>l.1==id&&inP t l.2.1.1 l.2.1.2) with|some l=>l.2.2|none=>0)
 |[],_=>rfl
 |l::r,hp=>by
  rw[dv] at hp;have ih:=OC id hft hp.2;simp only[ķ];rw[ih,ab6 l id hft,fJ]
  by_cases hm:l.1=id∧l.2.1.1≤t∧t≤l.2.1.2
  ·have e:(l.1==id&&inP t l.2.1.1 l.2.1.2)=true:=by simp[inP,hm.1,hm.2.1,hm.2.2]
   have hn:r.find? (fun l=>l.1==id&&inP t l.2.1.1 l.2.1.2)=none:=by
    rw[d9];intro c hc hcm;simp only[inP,cG,beq_iff_eq,decide_eq_true_eq] at hcm;exact hp.1 c hc ⟨by rw[hm.1,hcm.1],by omega,by omega⟩
   rw[if_pos hm,e,hn];simp only;omega
  ·have e:(l.1==id&&inP t l.2.1.1 l.2.1.2)=false:=by
    rw[d8];intro h;simp only[inP,cG,beq_iff_eq,decide_eq_true_eq] at h;exact hm h
   rw[if_neg hm,e];simp only;omega
section
variable {b:ę}
def Φ.apart (h:Φ b):b.2.2.2.1.Pairwise (fun a c=>¬(a.1=c.1∧a.2.1.1≤c.2.1.2∧c.2.1.1≤a.2.1.2)):=by
 rw[List.pairwise_iff_getElem];intro i j hi hj hij ⟨h1,h2,h3⟩;have hz:=h.loans j _ (List.getElem?_eq_getElem hj);unfold Q5 at hz
 have hany:(b.2.2.2.1.take j).any (fun x=>x.1==b.2.2.2.1[j].1&&(decide (x.2.1.1≤b.2.2.2.1[j].2.1.2)&&decide (b.2.2.2.1[j].2.1.1≤x.2.1.2)))=true:=by
  rw[dg];exact⟨b.2.2.2.1[i],cR.2 ⟨i,by rw[cY]; omega,by rw[eQ]⟩,by simp[h1,h2,h3]⟩
 rw[hany] at hz
 (repeat' split at hz)<;>first|omega|simp_all
def Φ.notUsed (h:Φ b) {id d:Int} {l:L8} (hl:lG b id d=some l):Vt b id d=false:=by
 have hm:=fj hl;have hp:=fV hl;simp only[inP,cG,beq_iff_eq,decide_eq_true_eq] at hp;obtain⟨j,hj,rfl⟩:=cR.1 hm;have hz:=h.loans j _ (cE hj);rw[d8];intro hu;obtain⟨u,hu,hue⟩:=dg.1 hu;simp only[cG,beq_iff_eq] at hue
 have hany:b.2.2.1.any (fun u=>u.1==b.2.2.2.1[j].1&&inP u.2 b.2.2.2.1[j].2.1.1 b.2.2.2.1[j].2.1.2)=true:=by
  rw[dg];exact⟨u,hu,by simp only[inP,cG,beq_iff_eq,decide_eq_true_eq]; exact⟨by rw[hue.1,hp.1],by omega,by omega⟩⟩
 unfold Q5 at hz;rw[hany] at hz
 (repeat' split at hz)<;>first|omega|simp_all
def Sb {id f t:Int} (hft:f≤t):Vl (g9 b id f (t+1))=Vl (g9 b id f t)++if Vt b id t then[t] else[]:=by
 have hm:∀t x,x∈g9 b id f t↔Vt b id x=true∧f≤x∧x<t:=by
  intro t x;unfold g9 Vt;simp only[List.mem_map,List.mem_filter,List.any_eq_true,inP,Bool.and_eq_true,beq_iff_eq,decide_eq_true_eq];constructor
  ·rintro⟨u,⟨h1,h2,h3,h4⟩,rfl⟩;exact⟨⟨u,h1,h2,rfl⟩,h3,by omega⟩
  ·rintro⟨⟨u,h1,h2,rfl⟩,h3,h4⟩;exact⟨u,⟨h1,h2,h3,by omega⟩,rfl⟩
 refine ahj (VD _) ?_ fun x=>?_
 ·rw[fM]
  refine⟨VD _,by split<;>simp,fun a ha c hc=>?_⟩
  rw[B5,hm] at ha
  split at hc
  ·rw[cO] at hc; omega
  ·cases hc
 ·rw[B5,hm,cJ,B5,hm]
  by_cases hu:Vt b id t=true
  ·rw[if_pos hu,cO];constructor
   ·rintro⟨h1,h2,h3⟩
    by_cases he:x=t
    ·exact .inr he
    ·exact .inl ⟨h1,h2,by omega⟩
   ·rintro(⟨h1,h2,h3⟩|rfl)
    ·exact⟨h1,h2,by omega⟩
    ·exact⟨hu,hft,by omega⟩
  ·rw[if_neg hu];constructor
   ·rintro⟨h1,h2,h3⟩;refine .inl ⟨h1,h2,?_⟩
    by_cases he:x=t
    ·rw[he] at h1; exact absurd h1 hu
    ·omega
   ·rintro(⟨h1,h2,h3⟩|h)
    ·exact⟨h1,h2,by omega⟩
    ·cases h
def Uq (h:Φ b) (g:Ā) {f t:Int} (hft:f≤t):jH b g f (t+1)=jH b g f t+acU b g t:=by
 unfold jH acU;rw[OC g.1 hft h.apart,Sb hft];show ķ g.1 f t b.2.2.2.1+(match lG b g.1 t with|some l=>l.2.2|none=>0)+_=_
 cases ha:lG b g.1 t with
 |some l =>
  rw[h.notUsed ha];simp only[cV,if_false,df];omega
 |none =>
  simp only
  cases Vt b g.1 t with
  |true=>simp only[if_true,cI,dH,Int.natCast_add,f5]; omega
  |false=>simp only[cV,if_false,df]; omega
def Ur (g:Ā) {f t:Int} (hft:t≤f):jH b g f t=0:=by
 unfold jH
 have h1:∀x:List L8,ķ g.1 f t x=0:=by
  intro x
  induction x with
  |nil=>rfl
  |cons l r ih =>
   simp only[ķ];rw[ih,if_neg (by unfold Ė; omega)];rfl
 have h2:g9 b g.1 f t=[]:=by
  unfold g9
  rw[gK.2 fun u hu hc=>by
   simp only[inP,cG,beq_iff_eq,decide_eq_true_eq] at hc
   omega]
  rfl
 rw[h1,h2];have h3:Vl ([]:List Int)=[]:=rfl;rw[h3];simp
end
def adx {ρ:Type}:@uK ρ=@gS ρ:=rfl
def adw {ρ:Type}:@uJ ρ=@Ŗ ρ:=rfl
def adv {ρ:Type}:@uI ρ=@ĩ ρ:=rfl
def UD {ρ:Type} {N:Nat} (hN:N≤1000) (x:Option ρ):ß ((ile (0:Int) (N:Int))&&(æ N)) x=x:=by
 have:=DP hN x
 rwa [cT] at this
section
variable {L:List Lk} {N:Nat} {M:Int}
def aa5 {s:Int} (hs:0≤s∧s<N):(List.replicate N ş).set s.toNat 0=tY (adT s) N:=by
 refine Yx (by simp[č]) fun v h0 h1=>?_
 have hv:v<N:=by simpa using h1
 rw[iG _ h0 hv,rk hs.1 h0 (by simp; omega)];unfold adT
 by_cases h:v=s
 ·simp[h]
 ·simp only[h,if_false,beq_iff_eq];unfold gv;rw[List.getElem?_replicate]
  have:v.toNat<N:=by omega
  simp[this]
def U6 (hL:iw L N M) (h1:1≤N) (hN:N≤200) (ho:kF L N=true) {s:Int} (hs:0≤s∧s<N):tG ((N:Int),L) [] s=some (yh L N s):=by
 obtain⟨p,hp⟩:=(kE hL hN).1 ho;unfold tG Fm;rw[adx,adw,adv];dsimp only;rw[DP (by omega),Int.toNat_natCast];refine ġ (List.replicate N (0:Int)) (fun i=>List.replicate i ş++List.replicate (N-i) 0) _ (by simp) (fun i a hi ha kn=>?_) (fun kn=>?_)
 ·dsimp only;unfold ow
  have hiN:i<N:=by simpa using hi
  have hl:i<(List.replicate i ş++List.replicate (N-i) (0:Int)).length:=by simp; omega
  rw[Ò hi,Ī hl,ò (cE hl),Ë hiN (by omega),cT];congr 2;rw[f9 _ _ (by simp)]
  have:N-i=(N-(i+1))+1:=by omega
  rw[this,fh,gP,fS,List.set_cons_zero,List.replicate_succ'];simp
 ·try dsimp only
  unfold ow;rw[â];dsimp only
  have e0:List.replicate (List.replicate N (0:Int)).length ş++List.replicate (N-(List.replicate N (0:Int)).length) 0=List.replicate N ş:=by simp
  rw[e0]
  have hlen:s.toNat<(List.replicate N ş).length:=by simp; omega
  rw[show ì (List.replicate N ş)=((N:Nat):Int) by simp[ì],ż hs.1 hs.2,j6 hlen,UD (by omega),UD (by omega),aa5 hs];refine eI (Ys hL _) ?_
  have hS:∀v,adT s v=true→0≤v∧v<N:=fun v h=>by simp[adT] at h; subst h; exact hs
  refine aa8 (č _ _) (by omega) _ fun w q hw hq hr hwq hqs=>?_;have hs0:=NP hL h1 hS hw hq hr hwq hqs;refine Sn hL (aex hL hN) hp hS _ (fun x w t q hx hd=>?_) hs0
  have:x=yh L N s:=by
   refine Yx (by rw[hx]; unfold yh; rw[Ţ,č]) fun v a b=>?_;exact hd.uniq (BL hL hN hp hs) a (by omega)
  dsimp only;rw[this]
def afu (h:jm L N) {ns:List Int} (hn:∀n∈ns,0≤n∧n<N) (hl:ns.length≤1000):D8 ((N:Int),L) ns=some (if kF L N then 0 else 9):=by
 have h2:=h.n60;unfold D8 JZ;rw[lC h,À];dsimp only;rw[Î (by rfl)];refine Eq.trans (iX ns (fun _=>false) (fun _=>some 1) (some (if kF L N then 0 else 9)) (fun i n hi hm kn=>?_) (fun kn=>?_)) ?_
 ·try dsimp only
  unfold qN;have a:=hn n (List.mem_of_getElem? hm)
  have e:(decide (0≤n)&&decide (n<(N:Int)))=true:=by simp[a.1,a.2]
  rw[Ò hi,É hm,VS,À,e,Ë hi (by omega)];simp
 ·try dsimp only
  unfold qN;rw[â,tZ h.links h.n1 (by omega),À]
  cases kF L N<;>rfl
 ·rw[dC.2 (by simp)]
end
def aav:ę:=((0,0),[],[],[],[],[])
structure In (b:ę):Prop where
 size:tS b
 num:∀g∈b.2.1,I64 g.2.2.2.2.1.1
def RU (b:ę):Sys×List (Int×Int)×Int:=if Ř b≠0 then((0,[]),[],Ř b) else((((Ú b).length:Int)+1,iY b),Pe b,0)
def Ve {b:ę} (h:In b):iD b=some (RU b):=by
 unfold iD FI RU;rw[rB h.size h.num,À]
 by_cases hc:Ř b=0
 ·rw[Î (by simp[ine,hc]),aez ((ś b).1 hc),À,if_neg (show ¬(Ř b≠0) from fun h=>h hc)]
 ·rw[Ù (by simp[ine,hc]),if_pos hc]
def LO (b:ę) (g:Int) (ds:List Int):Int:=if Ř b≠0 then Ř b else if ds.any (fun d=>!O0 d) then 1 else if (qm (k:=tI) (v:=Õ) g (iE b)).isNone then 5 else 0
def adF {b:ę} (h:In b) (g:Int) {ds:List Int} (hd:ds.length≤1000):Ea b g ds=some (LO b g ds):=by
 unfold Ea KE LO;rw[rB h.size h.num,À]
 by_cases hc:Ř b=0
 ·rw[Î (by simp[ine,hc]),if_neg (show ¬(Ř b≠0) from fun h=>h hc)]
  have last:(Ã (Ľ b) fun r9=>L5 (k:=tI) (v:=Õ) g r9 (fun y10=>some (0:Int)) (some (5:Int)))=some (if (qm (k:=tI) (v:=Õ) g (iE b)).isNone then 5 else 0):=by
   rw[EB h.size.gauges,À];unfold L5
   cases qm (k:=tI) (v:=Õ) g (iE b)<;>rfl
  refine eI (ũ ds (fun d=>!O0 d) (fun z5=>ifb (ige z5 (0:Int)) (some (1:Int)) (Ã (Ľ b) fun r6=>L5 (k:=tI) (v:=Õ) g r6 (fun y7=>some (0:Int)) (some (5:Int)))) (some 1) (some (if (qm (k:=tI) (v:=Õ) g (iE b)).isNone then 5 else 0)) (fun j=>?_) (fun i d hi hdi kn=>?_) (fun kn=>?_)) ?_
  ·rw[Ù (by simp[ige])]
  ·try dsimp only
   unfold rc;rw[Ò hi,É hdi,Ig,À,Ë hi (by omega),Č]
  ·try dsimp only
   unfold rc;rw[â,last]
  ·cases ds.any (fun d=>!O0 d)<;>rfl
 ·rw[Ù (by simp[ine,hc]),if_pos hc]
section
variable {b:ę}
def agD:off b b.2.1.length=(Ú b).length:=by unfold off Ú; rw[List.take_length]
def aet:∀n,n≤b.2.1.length→∀j,j<off b n→∃(i:Nat) (g:Ā) (k:Nat),b.2.1[i]?=some g∧k<(è b g).length∧j=off b i+k:=by
 intro n
 induction n with
 |zero=>intro _ j hj; simp[off] at hj
 |succ n ih =>
  intro hn j hj;have hg:b.2.1[n]?=some b.2.1[n]:=cE (by omega);rw[aes hg] at hj
  by_cases h:j<off b n
  ·exact ih (by omega) j h
  ·exact⟨n,_,j-off b n,hg,by omega,by omega⟩
def Oa {v:Int} (h0:1≤v) (h1:v<((Ú b).length+1:Nat)):∃(i:Nat) (g:Ā) (k:Nat),b.2.1[i]?=some g∧k<(è b g).length∧v=(off b i:Int)+k+1:=by
 obtain⟨i,g,k,h2,h3,h4⟩:=aet (b:=b) b.2.1.length (cF _) (v-1).toNat (by rw[agD]; omega);exact⟨i,g,k,h2,h3,by omega⟩
def GL (b:ę) (L:List Lk):Prop:=∀(i:Nat) (g:Ā),b.2.1[i]?=some g→∀l∈Ő b g,l∈L
def Yz:GL b (iY b):=fun i g hg l hl=>oR.2 (.inl ⟨i,g,hg,hl⟩)
def agh {L:List Lk} (h:Φ b) (hL:GL b L) {v:Int} (h0:0≤v) (h1:v<((Ú b).length+1:Nat)):∃vs d,Wl L (fun u=>u=0) vs v d∧d≤4503599627370496:=by
 by_cases hv:v=0
 ·exact⟨[],0,.nil hv,by omega⟩
 obtain⟨i,g,k,hg,hk,rfl⟩:=Oa (by omega) h1;have hr:=h.gaugeR (cN hg);have r1:=hr.2.2.2.2.2.1;have r2:=hr.2.2.2.2.2.2.1
 have key:∀k:Nat,k<(è b g).length→∃vs,Wl L (fun u=>u=0) vs ((off b i:Int)+k+1) (g.2.2.1+g.2.2.2.1.2):=by
  intro k
  induction k with
  |zero =>
   intro _;have hw:Wl L (fun u=>u=0) [0] ((off b i:Int)+1) (0+(g.2.2.1+g.2.2.2.1.2)):=Wl.step (.nil rfl) (hL i g hg _ ((ļ h hg).2 (.inl rfl)));rw[Int.zero_add] at hw;exact⟨[0],by simpa using hw⟩
  |succ k ih =>
   intro hk;obtain⟨vs,hw⟩:=ih (by omega);have hw':=Wl.step hw (hL i g hg _ ((ļ h hg).2 (.inr (.inr ⟨k,_,_,cE (show k<_ by omega),cE hk,.inl rfl⟩))));rw[gE] at hw'
   have e:(off b i:Int)+((k+1:Nat):Int)+1=(off b i:Int)+k+2:=by push_cast; omega
   exact⟨_,by rw[e]; exact hw'⟩
 obtain⟨vs,hw⟩:=key k hk;exact⟨vs,_,hw,by omega⟩
def aaZ {L:List Lk} (h:Φ b) (hL:GL b L) {v:Int} (h0:0≤v) (h1:v<((Ú b).length+1:Nat)):∃vs d,Wl L (fun u=>u=v) vs 0 d∧d≤4503599627370496:=by
 by_cases hv:v=0
 ·exact⟨[],0,.nil hv.symm,by omega⟩
 obtain⟨i,g,k,hg,hk,rfl⟩:=Oa (by omega) h1;have hgm:=cN hg;have hr:=h.gaugeR hgm;have r1:=hr.2.2.2.2.2.1;have r2:=hr.2.2.2.2.2.2.1;have hd:=Rw h hgm
 have key:∀m:Nat,m≤k→∃vs d,Wl L (fun u=>u=(off b i:Int)+k+1) vs ((off b i:Int)+(k-m:Nat)+1) d∧d≤m*(12*(20001*1048576)+40*1048576):=by
  intro m
  induction m with
  |zero=>intro _; exact⟨[],0,.nil (by simp),by simp⟩
  |succ m ih =>
   intro hm;obtain⟨vs,d,hw,hd⟩:=ih (by omega)
   have e1:((k-m:Nat):Int)=((k-(m+1):Nat):Int)+1:=by omega
   have hl:(((off b i:Int)+(k-(m+1):Nat)+2,(off b i:Int)+(k-(m+1):Nat)+1,jH b g ((è b g)[k-(m+1)]'(by omega)) ((è b g)[k-(m+1)+1]'(by omega))):Lk)∈L :=
    hL i g hg _ ((ļ h hg).2 (.inr (.inr ⟨k-(m+1),_,_,cE (by omega),cE (by omega),.inr rfl⟩)))
   have hb:=vf h hgm (f:=(è b g)[k-(m+1)]'(by omega)) (t:=(è b g)[k-(m+1)+1]'(by omega)) (h.day hgm (fe _)).2.1
   have e2:(off b i:Int)+(k-m:Nat)+1=(off b i:Int)+(k-(m+1):Nat)+2:=by omega
   rw[e2] at hw;exact⟨_,_,.step hw hl,by push_cast; omega⟩
 obtain⟨vs,d,hw,hdb⟩:=key k (cF _)
 have e:(off b i:Int)+(k-k:Nat)+1=(off b i:Int)+1:=by omega
 rw[e] at hw;have hw':=Wl.step hw (hL i g hg _ ((ļ h hg).2 (.inr (.inl rfl))));exact⟨_,_,hw',by omega⟩
end
structure Xu (L:List Lk) (N:Nat):Prop where
 to:∀v:Int,0≤v→v<N→∃vs d,Wl L (fun u=>u=0) vs v d∧d≤4503599627370496
 from':∀v:Int,0≤v→v<N→∃vs d,Wl L (fun u=>u=v) vs 0 d∧d≤4503599627370496
def Φ.tied {b:ę} (h:Φ b):Xu (iY b) ((Ú b).length+1):=⟨fun v h0 h1=>agh h Yz h0 h1,fun v h0 h1=>aaZ h Yz h0 h1⟩
section
variable {L:List Lk} {N:Nat}
def afM {L:List Lk} {s:Int} {vs:List Int} {v d:Int}:Wl L (fun v=>adT s v=true) vs v d↔Wl L (fun u=>u=s) vs v d :=
 ⟨fun h=>h.mono fun u hu=>by simpa[adT] using hu,fun h=>h.mono fun u hu=>by simpa[adT] using hu⟩
def LL (s:Int):(yh L N s).length=N:=by unfold yh; rw[Ţ,č]
end
def Gm (b:ę) (id day:Int):Int:=match ċ b id with|some g=>if day<g.2.1 then 4 else 0|none=>5
def VA {b:ę} (hi:b.2.1.Pairwise fun a b=>a.1<b.1) (id day:Int):Gm b id day=mP (iE b) id day:=by
 unfold Gm mP;rw[yr hi]
 cases ċ b id<;>rfl
def Z6 (e:Int):Option Int:=if e=0 then none else some e
def aht (b:ę) (g d:Int):Bool×Int:=if LO b g [d]≠0 then(false,LO b g [d]) else((lG b g d).isSome,0)
def ahs {b:ę} (h:In b) (g d:Int):yP b g d=some (aht b g d):=by
 have hu:=h.size.loans;unfold yP Q3 aht;rw[adF h g (by simp),À]
 by_cases ha:LO b g [d]=0
 ·rw[Î (by simp[ine,ha]),adC (by omega),À,if_neg (by simpa using ha)]
  cases lG b g d<;>rfl
 ·rw[Ù (by simp[ine,ha]),if_pos ha]
end Go.Proofs.ZzM
end
