/- lemmas -/
import Derived.Test.YthpkdfdacidamaaGreatMdPA
import Derived.Test.YthpkdfdacidamaaGreatMdTA
set_option linter.all false
set_option linter.unusedSectionVars false
set_option linter.unusedVariables false
set_option linter.unusedSimpArgs false
noncomputable section
namespace Go.Proofs.ZzM
open Go Go.Am
abbrev Lk:Type:=Int×Int×Int
inductive Wl (L:List Lk) (S:Int→Prop):List Int→Int→Int→Prop
 |nil {v:Int}:S v→Wl L S [] v 0
 |step {vs:List Int} {u v m d:Int}:Wl L S vs u d→(u,v,m)∈L→Wl L S (u::vs) v (d+m)
def Pot (L:List Lk) (p:Int→Int):Prop:=∀u v m,(u,v,m)∈L→p v≤p u+m
def InR (L:List Lk) (N:Nat):Prop:=∀l∈L,(0≤l.1∧l.1<N)∧(0≤l.2.1∧l.2.1<N)
section
variable {L:List Lk} {S:Int→Prop} {N:Nat} {p:Int→Int}
def Wl.cut (hp:Pot L p) {vs:List Int} {v d:Int} (h:Wl L S vs v d):∀x∈vs,∃vs1 d1,Wl L S vs1 x d1∧(x::vs1) <:+ vs∧d1+(p v-p x)≤d:=by
 induction h with
 |nil h=>intro x hx; cases hx
 | @step vs u v m d hw hl ih =>
  intro x hx;have h1:=hp u v m hl;rcases cN.1 hx with rfl|hx
  ·exact⟨vs,d,hw,List.suffix_refl _,by omega⟩
  ·obtain⟨vs1,d1,g1,g2,g3⟩:=ih x hx;exact⟨vs1,d1,g1,g2.trans (List.suffix_cons _ _),by omega⟩
def Wl.simple (hp:Pot L p) {vs:List Int} {v d:Int} (h:Wl L S vs v d):∃vs' d',Wl L S vs' v d'∧d'≤d∧(v::vs').Nodup:=by
 induction h with
 |nil h=>exact⟨[],0,.nil h,dP _,by simp⟩
 | @step vs u v m d hw hl ih =>
  obtain⟨vs1,d1,g1,g2,g3⟩:=ih;have hw1:=Wl.step g1 hl
  by_cases hv:v∈u::vs1
  ·obtain⟨vs2,d2,k1,k2,k3⟩:=hw1.cut hp v hv;exact⟨vs2,d2,k1,by omega,g3.sublist k2.sublist⟩
  ·exact⟨u::vs1,d1+m,hw1,by omega,eT.2 ⟨hv,g3⟩⟩
def Wl.range (hL:InR L N) (hS:∀v,S v→0≤v∧v<N) {vs:List Int} {v d:Int} (h:Wl L S vs v d):(0≤v∧v<N)∧∀u∈vs,0≤u∧u<N:=by
 induction h with
 |nil h=>exact⟨hS _ h,fun u hu=>by cases hu⟩
 | @step vs u v m d hw hl ih =>
  refine⟨(hL _ hl).2,fun w hw'=>?_⟩;rcases cN.1 hw' with rfl|h
  ·exact ih.1
  ·exact ih.2 w h
def ZO:∀(N:Nat) (l:List Int),l.Nodup→(∀x∈l,0≤x∧x<N)→l.length≤N
 |0,l,_,h=>by
  cases l with
  |nil=>simp
  |cons a l=>have:=h a (by simp); omega
 |N+1,l,hn,h=>by
  have h1:(l.erase (N:Int)).length≤N:=ZO N _ (hn.erase _) fun x hx=>by
   have h2:=(hn.mem_erase_iff).1 hx;have:=h x h2.2;have:=h2.1;omega
  have:=List.length_erase (a:=(N:Int)) (l:=l)
  split at this<;>omega
def Wl.short (hL:InR L N) (hS:∀v,S v→0≤v∧v<N) {vs:List Int} {v d:Int} (h:Wl L S vs v d) (hn:(v::vs).Nodup):vs.length+1≤N:=by
 have:=h.range hL hS
 exact ZO N (v::vs) hn fun x hx=>by
  rcases cN.1 hx with rfl|hx
  ·exact this.1
  ·exact this.2 x hx
def JJ (f:Lk→Bool):List Lk→Int
 |[]=>0
 |l::t=>(if f l then min l.2.2 0 else 0)+JJ f t
def adx (f:Lk→Bool):∀L:List Lk,JJ (fun _=>true) L≤JJ f L
 |[]=>dP _
 |l::t=>by
  have:=adx f t;simp only[JJ,if_true]
  split<;>omega
def xd (f:Lk→Bool):∀L:List Lk,JJ f L≤0
 |[]=>dP _
 |l::t=>by
  have:=xd f t;simp only[JJ]
  split<;>omega
def Z2 {f:Lk→Bool} {l:Lk} (hf:f l=true):∀{L:List Lk},l∈L→JJ f L≤l.2.2
 |a::t,h=>by
  simp only[JJ];rcases cN.1 h with rfl|h
  ·have:=xd f t;rw[if_pos hf]; omega
  ·have:=Z2 hf h
   split<;>omega
def adw {f g:Lk→Bool} (h:∀l,f l=true→g l=false):∀L:List Lk,JJ (fun l=>f l||g l) L=JJ f L+JJ g L
 |[]=>rfl
 |l::t=>by
  have ih:=adw h t;simp only[JJ,ih]
  by_cases hf:f l=true
  ·simp[hf,h l hf]; omega
  ·have hf':f l=false:=by simpa using hf
   by_cases hg:g l=true
   ·simp[hf',hg]; omega
   ·simp[hf',hg]
def Wl.low {vs:List Int} {v d:Int} (h:Wl L S vs v d):vs.Nodup→JJ (fun l=>vs.contains l.1) L≤d:=by
 induction h with
 |nil h=>intro _; exact xd _ _
 | @step vs u v m d hw hl ih =>
  intro hn;rw[eT] at hn;have h1:=ih hn.2;have h2:JJ (fun l=>l.1==u) L≤m:=Z2 (f:=fun l=>l.1==u) (l:=(u,v,m)) (by simp) hl
  have h3:=adw (f:=fun l:Lk=>l.1==u) (g:=fun l=>vs.contains l.1) (fun l hf=>by
   simp only[beq_iff_eq] at hf;rw[hf]
   simpa using hn.1) L
  have h4:(fun l:Lk=>(u::vs).contains l.1)=fun l=>(l.1==u)||vs.contains l.1:=by funext l; rw[List.contains_cons]
  rw[h4,h3];omega
def Kw (L:List Lk):Int:=JJ (fun _=>true) L
def Wl.low' (hp:Pot L p) {vs:List Int} {v d:Int} (h:Wl L S vs v d):Kw L≤d:=by
 obtain⟨vs',d',h1,h2,h3⟩:=h.simple hp;have:=h1.low (List.nodup_cons.1 h3).2;have:=adx (fun l=>vs'.contains l.1) L;unfold Kw;omega
def Wl.high {M:Int} (hM:∀l∈L,l.2.2≤M) {vs:List Int} {v d:Int} (h:Wl L S vs v d):d≤vs.length*M:=by
 induction h with
 |nil h=>simp
 | @step vs u v m d hw hl ih =>
  have:=hM _ hl;simp only[cW,eY,fu,gD];simp only at this;omega
def Wl.lowM {M:Int} (hM:∀l∈L,-M≤l.2.2) {vs:List Int} {v d:Int} (h:Wl L S vs v d) : -(vs.length*M)≤d:=by
 induction h with
 |nil h=>simp
 | @step vs u v m d hw hl ih =>
  have:=hM _ hl;simp only[cW,eY,fu,gD];simp only at this;omega
def Wl.mono {S':Int→Prop} (hS:∀v,S v→S' v) {vs:List Int} {v d:Int} (h:Wl L S vs v d):Wl L S' vs v d:=by
 induction h with
 |nil h=>exact .nil (hS _ h)
 |step hw hl ih=>exact .step ih hl
def Wl.pot (hp:Pot L p) {vs:List Int} {v d:Int} (h:Wl L S vs v d):∃s,S s∧p v-p s≤d:=by
 induction h with
 | @nil v h=>exact⟨v,h,by omega⟩
 | @step vs u v m d hw hl ih =>
  obtain⟨s,h1,h2⟩:=ih;have:=hp u v m hl;exact⟨s,h1,by omega⟩
end
abbrev ŵ:Int:=1152921504606846976
structure acp (L:List Lk) (S:Int→Prop) (N:Nat) (x:Int→Int):Prop where
 att:∀v:Int,0≤v→v<N→x v≠ŵ→∃vs,Wl L S vs v (x v)
 low:∀v vs d,Wl L S vs v d→x v≤d
 bd:∀v:Int,0≤v→v<N→x v≤ŵ
def acp.uniq {L:List Lk} {S:Int→Prop} {N:Nat} {x y:Int→Int} (hx:acp L S N x) (hy:acp L S N y) {v:Int} (h0:0≤v) (h1:v<N):x v=y v:=by
 have key:∀{x y:Int→Int},acp L S N x→acp L S N y→x v≤y v:=by
  intro x y hx hy
  by_cases h:y v=ŵ
  ·rw[h]; exact hx.bd v h0 h1
  ·obtain⟨vs,hw⟩:=hy.att v h0 h1 h;exact hx.low v vs _ hw
 exact Int.le_antisymm (key hx hy) (key hy hx)
def gv (x:List Int) (v:Int):Int:=x[v.toNat]?.getD 0
def aam {x:List Int} {v:Int} (h:v.toNat<x.length):x[v.toNat]?=some (gv x v):=by
 unfold gv; rw[List.getElem?_eq_getElem h]; rfl
def uq {x:List Int} {u v:Int} (hu:0≤u) (hv:0≤v) (h:u.toNat<x.length) (y:Int):gv (x.set u.toNat y) v=if v=u then y else gv x v:=by
 unfold gv;rw[List.getElem?_set]
 by_cases hvu:v=u
 ·subst hvu; simp[h]
 ·have:¬u.toNat=v.toNat:=by omega
  simp[hvu,this]
def aan {x y:List Int} (hl:x.length=y.length) (h:∀v:Int,0≤v→v<x.length→gv x v=gv y v):x=y:=by
 refine List.ext_getElem hl fun i h1 h2=>?_;have:=h i (by omega) (by omega);unfold gv at this;simpa[h1,h2] using this
def oc (x:List Int) (l:Lk):List Int:=if gv x l.1<ŵ∧gv x l.1+l.2.2<gv x l.2.1 then x.set l.2.1.toNat (gv x l.1+l.2.2) else x
def JH (L:List Lk) (x:List Int):List Int:=L.foldl oc x
def mW (L:List Lk):Nat→List Int→List Int
 |0,x=>x
 |n+1,x=>mW L n (JH L x)
def qq (x:List Int) (l:Lk):(oc x l).length=x.length:=by unfold oc; split<;>simp
def zy (L:List Lk):∀x:List Int,(JH L x).length=x.length:=by
 induction L with
 |nil=>intro x; rfl
 |cons l t ih=>intro x; show(JH t (oc x l)).length=_; rw[ih,qq]
def ũ (L:List Lk):∀(n:Nat) (x:List Int),(mW L n x).length=x.length
 |0,x=>rfl
 |n+1,x=>by rw[mW,ũ L n,zy]
def Dt (L:List Lk):∀(n:Nat) (x:List Int),mW L (n+1) x=JH L (mW L n x)
 |0,x=>rfl
 |n+1,x=>by rw[mW,Dt L n]; rfl
section
variable {L0:List Lk} {S:Int→Prop} {N:Nat}
def Uz {x:List Int} {l:Lk} (hl:(0≤l.1∧l.1<N)∧(0≤l.2.1∧l.2.1<N)) (hx:x.length=N) (v:Int) (hv:0≤v):gv (oc x l) v≤gv x v:=by
 unfold oc
 split
 ·rename_i h;rw[uq hl.2.1 hv (by omega)]
  split
  ·rename_i h2; subst h2; omega
  ·exact dP _
 ·exact dP _
def EJ:∀{L:List Lk},InR L N→∀{x:List Int},x.length=N→∀v,0≤v→gv (JH L x) v≤gv x v
 |[],_,x,_,v,_=>dP _
 |l::t,hL,x,hx,v,hv=>by
  have h1:=Uz (hL l (by simp)) hx v hv;have h2:=EJ (L:=t) (fun l hl=>hL l (by simp[hl])) (x:=oc x l) (by rw[qq,hx]) v hv;show gv (JH t (oc x l)) v≤_;omega
def Hv:∀{L:List Lk},InR L N→∀{x:List Int},x.length=N→∀u v m,(u,v,m)∈L→gv x u<ŵ→gv (JH L x) v≤gv x u+m
 |l::t,hL,x,hx,u,v,m,hm,hf=>by
  have ht:InR t N:=fun l hl=>hL l (by simp[hl])
  have hx':(oc x l).length=N:=by rw[qq,hx]
  show gv (JH t (oc x l)) v≤_;rcases cN.1 hm with rfl|hm
  ·have hl:=hL (u,v,m) (by simp);have h2:=EJ ht hx' v hl.2.1
   have h3:gv (oc x (u,v,m)) v≤gv x u+m:=by
    unfold oc
    split
    ·rw[uq hl.2.1 hl.2.1 (by simp only at hl; simp only; omega),if_pos rfl]; exact dP _
    ·rename_i h; simp only[not_and,Int.not_lt] at h; exact h hf
   omega
  ·have hl:=hL (u,v,m) (by simp[hm]);have h1:=Uz (hL l (by simp)) hx u hl.1.1;have:=Hv ht hx' u v m hm (by omega);omega
def Att (L0:List Lk) (S:Int→Prop) (N:Nat) (x:List Int):Prop:=∀v:Int,0≤v→v<N→gv x v<ŵ→∃vs,Wl L0 S vs v (gv x v)
def abm {x:List Int} {l:Lk} (hl:(0≤l.1∧l.1<N)∧(0≤l.2.1∧l.2.1<N)) (hm:l∈L0) (hx:x.length=N) (h:Att L0 S N x):Att L0 S N (oc x l):=by
 unfold oc
 split
 ·rename_i hc;intro v h0 h1 hf;rw[uq hl.2.1 h0 (by omega)] at hf ⊢
  split
  ·rename_i h2;obtain⟨vs,hw⟩:=h l.1 hl.1.1 hl.1.2 hc.1;exact⟨_,h2▸Wl.step hw hm⟩
  ·rename_i h2;rw[if_neg h2] at hf;exact h v h0 h1 hf
 ·exact h
def UE:∀{L:List Lk},InR L N→(∀l∈L,l∈L0)→∀{x:List Int},x.length=N→Att L0 S N x→Att L0 S N (JH L x)
 |[],_,_,_,_,h=>h
 |l::t,hL,hsub,x,hx,h=>UE (L:=t) (fun l hl=>hL l (by simp[hl])) (fun l hl=>hsub l (by simp[hl])) (x:=oc x l) (by rw[qq,hx]) (abm (hL l (by simp)) (hsub l (by simp)) hx h)
def PZ (hL:InR L0 N):∀(n:Nat) {x:List Int},x.length=N→Att L0 S N x→Att L0 S N (mW L0 n x)
 |0,_,_,h=>h
 |n+1,x,hx,h=>PZ hL n (by rw[zy,hx]) (UE hL (fun _ h=>h) hx h)
def EI (hL:InR L0 N):∀(n:Nat) {x:List Int},x.length=N→∀v,0≤v→gv (mW L0 n x) v≤gv x v
 |0,_,_,_,_=>dP _
 |n+1,x,hx,v,hv=>Int.le_trans (EI hL n (by rw[zy,hx]) v hv) (EJ hL hx v hv)
def wX (S:Int→Bool) (N:Nat):List Int:=(List.range N).map fun(i:Nat)=>if S i then 0 else ŵ
def jG (S:Int→Bool) {N:Nat} {v:Int} (h0:0≤v) (h1:v<N):gv (wX S N) v=if S v then 0 else ŵ:=by
 unfold gv wX
 have:v.toNat<N:=by omega
 rw[ff,f0 this];simp only[dK,gS];rw[Int.toNat_of_nonneg h0]
def ď (S:Int→Bool) (N:Nat):(wX S N).length=N:=by simp[wX]
end
def Hu {L:List Lk} {S:Int→Bool} {N:Nat} {M:Int} (hL:InR L N) (hS:∀v,S v=true→0≤v∧v<N) (hM:∀l∈L,l.2.2≤M):∀(n:Nat),n*M<ŵ→0≤M→∀vs v d,Wl L (fun v=>S v=true) vs v d→vs.length≤n→gv (mW L n (wX S N)) v≤d
 |0,_,_,vs,v,d,hw,hl=>by
  cases hw with
  |nil h =>
   have:=hS v h;rw[mW,jG S this.1 this.2,if_pos h]; exact dP _
  |step=>simp at hl
 |n+1,hn,hM0,vs,v,d,hw,hl=>by
  have hn':n*M<ŵ:=by rw[eY,fu,gD] at hn; omega
  have hlen:(mW L n (wX S N)).length=N:=by rw[ũ,ď]
  rw[Dt]
  cases hw with
  |nil h =>
   have h1:=EJ hL hlen v (hS v h).1;have h2:=Hu hL hS hM n hn' hM0 [] v 0 (.nil h) (by simp);omega
  | @step vs u _ m d hw hlk =>
   have h2:=Hu hL hS hM n hn' hM0 vs u d hw (by simpa using hl);have h3:=hw.high hM;have h4:(vs.length:Int)*M≤n*M:=ew (by simp at hl; omega) hM0;have:=Hv hL hlen u v m hlk (by omega);omega
def Lh {L:List Lk} {S:Int→Bool} {N:Nat} {M:Int} {p:Int→Int} (hp:Pot L p) (hL:InR L N) (hS:∀v,S v=true→0≤v∧v<N) (hM:∀l∈L,l.2.2≤M) (hM0:0≤M) (hN:N*M<ŵ) (n:Nat) (hn:N≤n+1):acp L (fun v=>S v=true) N (gv (mW L n (wX S N))):=by
 have hatt:Att L (fun v=>S v=true) N (wX S N):=fun v h0 h1 hf=>by
  rw[jG S h0 h1] at hf ⊢
  split
  ·rename_i h; exact⟨[],.nil h⟩
  ·rename_i h; rw[if_neg h] at hf; omega
 have hbd:∀v:Int,0≤v→v<N→gv (mW L n (wX S N)) v≤ŵ:=fun v h0 h1=>by
  have:=EI hL n (ď S N) v h0;rw[jG S h0 h1] at this
  have hF:(0:Int)≤ŵ:=by decide
  split at this<;>omega
 have hlow:∀(n:Nat),N≤n+1→∀v vs d,Wl L (fun v=>S v=true) vs v d→gv (mW L n (wX S N)) v≤d:=by
  intro n hn v vs d hw;obtain⟨vs',d',h1,h2,h3⟩:=hw.simple hp;have h4:=h1.short hL hS h3
  have hpos:0<N:=by omega
  obtain⟨k,rfl⟩:∃k,N=k+1:=⟨N-1,by omega⟩
  have hk:(k:Int)*M<ŵ:=by rw[eY,fu,gD] at hN; omega
  have h5:=Hu hL hS hM k hk hM0 vs' v d' h1 (by omega);obtain⟨j,rfl⟩:∃j,n=k+j:=⟨n-k,by omega⟩
  have h6:∀(j:Nat),gv (mW L (k+j) (wX S (k+1))) v≤gv (mW L k (wX S (k+1))) v:=by
   intro j
   induction j with
   |zero=>exact dP _
   |succ j ih =>
    rw[←Nat.add_assoc,Dt];have:=EJ hL (x:=mW L (k+j) (wX S (k+1))) (by rw[ũ,ď]) v (h1.range hL hS).1.1;omega
  have:=h6 j;omega
 exact⟨fun v h0 h1 hne=>PZ hL n (ď S N) hatt v h0 h1 (by have:=hbd v h0 h1; omega),hlow n hn,hbd⟩
def acp.pot {L:List Lk} {S:Int→Prop} {N:Nat} {x:Int→Int} (h:acp L S N x) (hL:InR L N) {u v m:Int} (hl:(u,v,m)∈L) (hf:x u≠ŵ):x v≤x u+m:=by
 obtain⟨vs,hw⟩:=h.att u (hL _ hl).1.1 (hL _ hl).1.2 hf;exact h.low v _ _ (.step hw hl)
section
variable {α:Type} (key:α→Int)
def Srt (l:List α):Prop:=l.Pairwise fun x y=>key x≤key y
def Stb (l s:List α):Prop:=∀k:Int,s.filter (fun x=>key x==k)=l.filter (fun x=>key x==k)
variable {key}
def Stb.refl (l:List α):Stb key l l:=fun _=>rfl
def Stb.symm {l s:List α} (h:Stb key l s):Stb key s l:=fun k=>(h k).symm
def Stb.trans {l s t:List α} (h:Stb key l s) (h2:Stb key s t):Stb key l t:=fun k=>(h2 k).trans (h k)
def Stb.append {l s l' s':List α} (h:Stb key l s) (h2:Stb key l' s'):Stb key (l++l') (s++s'):=fun k=>by
 rw[eM,eM,h k,h2 k]
def Stb.mem {l s:List α} (h:Stb key l s) {x:α}:x∈s↔x∈l:=by
 have:=h (key x);constructor
 ·intro hx;have:x∈s.filter fun y=>key y==key x:=dH.2 ⟨hx,by simp⟩;rw[h] at this;exact(dH.1 this).1
 ·intro hx;have:x∈l.filter fun y=>key y==key x:=dH.2 ⟨hx,by simp⟩;rw[←h] at this;exact(dH.1 this).1
def Stb.swap {u v:List α} (h:∀x∈u,∀y∈v,key x≠key y):Stb key (u++v) (v++u):=fun k=>by
 rw[eM,eM]
 by_cases hu:∃x∈u,key x=k
 ·obtain⟨x,hx,rfl⟩:=hu
  have:v.filter (fun y=>key y==key x)=[]:=gR.2 fun y hy=>by
   have:=h x hx y hy;simp; omega
  rw[this]; simp
 ·have:u.filter (fun y=>key y==k)=[]:=gR.2 fun y hy=>by
   simp;exact fun e=>hu ⟨y,hy,e⟩
  rw[this]; simp
def Stb.uniq:∀{s t:List α},Srt key s→Srt key t→Stb key s t→s=t
 |[],[],_,_,_=>rfl
 |[],y::t,_,_,h=>absurd ((h.mem (x:=y)).1 (by simp)) (by simp)
 |x::s,[],_,_,h=>absurd ((h.mem (x:=x)).2 (by simp)) (by simp)
 |x::s,y::t,hs,ht,h=>by
  have h1:=dA.1 hs;have h2:=dA.1 ht
  have hk:key x=key y:=by
   have a1:key x≤key y:=by
    rcases cN.1 ((h.mem (x:=y)).1 (by simp)) with e|hm
    ·rw[e]; exact dP _
    ·exact h1.1 y hm
   have a2:key y≤key x:=by
    rcases cN.1 ((h.mem (x:=x)).2 (by simp)) with e|hm
    ·rw[e]; exact dP _
    ·exact h2.1 x hm
   omega
  have hx:x=y:=by
   have:=h (key x);have hky:(key y==key x)=true:=beq_iff_eq.2 hk.symm;have hkx:(key x==key x)=true:=beq_iff_eq.2 rfl;simp only[eA,hky,hkx,if_true] at this;exact(List.cons.inj this).1.symm
  subst hx;congr 1;refine Stb.uniq h1.2 h2.2 fun k=>?_;have:=h k
  by_cases hk:key x=k
  ·rw[f8 (by simp[hk]),f8 (by simp[hk])] at this;exact(List.cons.inj this).2
  ·rw[f7 (by simp[hk]),f7 (by simp[hk])] at this;exact this
variable (key)
def abP (x:α):List α→List α
 |[]=>[x]
 |y::l=>if key x≤key y then x::y::l else y::abP x l
def ő (l:List α):List α:=l.foldr (abP key) []
variable {key}
def Tq (x:α):∀l:List α,Stb key (x::l) (abP key x l)
 |[]=>Stb.refl _
 |y::l=>by
  unfold abP
  split
  ·exact Stb.refl _
  ·rename_i h;refine Stb.trans (s:=y::x::l) ?_ fun k=>?_
   ·have:=Stb.swap (key:=key) (u:=[x]) (v:=[y]) (fun a ha b hb=>by simp at ha hb; subst ha hb; omega);exact(this.append (Stb.refl l))
   ·have:=Tq x l k;simp only[eA];rw[this];simp only[eA]
def agx {x z:α} {l:List α}:z∈abP key x l↔z=x∨z∈l:=by
 rw[(Tq x l).mem,cN]
def aah (x:α):∀{l:List α},Srt key l→Srt key (abP key x l)
 |[],_=>fE _ _
 |y::l,h=>by
  have h1:=List.pairwise_cons.1 h;unfold abP
  split
  ·rename_i hx;refine List.Pairwise.cons (fun z hz=>?_) h;rcases cN.1 hz with rfl|hz
   ·exact hx
   ·exact Int.le_trans hx (h1.1 z hz)
  ·rename_i hx;refine List.Pairwise.cons (fun z hz=>?_) (aah x h1.2);rcases agx.1 hz with rfl|hz
   ·omega
   ·exact h1.1 z hz
def lQ:∀l:List α,Srt key (ő key l)
 |[]=>List.Pairwise.nil
 |x::l=>aah x (lQ l)
def Ť:∀l:List α,Stb key l (ő key l)
 |[]=>Stb.refl _
 |x::l=>by
  have:Stb key (x::l) (x::ő key l):=(Stb.refl [x]).append (Ť l);exact this.trans (Tq x _)
def yk {l s:List α} (h:Srt key s) (h2:Stb key l s):ő key l=s:=Stb.uniq (lQ l) h ((Ť l).symm.trans h2)
def Stb.perm {l s:List α} [DecidableEq α] (h:Stb key l s):s.Perm l:=by
 rw[List.perm_iff_count];intro x
 have e:∀l:List α,l.count x=(l.filter fun y=>key y==key x).count x:=fun l=>by
  rw[List.count_filter];simp
 rw[e s,e l,h]
def Stb.length {l s:List α} (h:Stb key l s):s.length=l.length:=by
 classical
 exact h.perm.length_eq
def Srt.append {l s:List α} (h:Srt key l) (h2:Srt key s) (h3:∀x∈l,∀y∈s,key x≤key y):Srt key (l++s):=fT.2 ⟨h,h2,h3⟩
def Srt.parts {l s:List α} (h:Srt key (l++s)):Srt key l∧Srt key s∧∀x∈l,∀y∈s,key x≤key y:=fT.1 h
end
abbrev Way:=List (List Int)
abbrev Ū:=Val Â
def ĝ (m:Ū) (x:Way):Int:=(Ĺ m x).getD 0
def WOk (m:Ū) (l:List Way):Prop:=∀x∈l,Ĺ m x=some (ĝ m x)
section
variable {ρ:Type} {m:Ū}
def aiW (a b:Int):kD a b=some (if a<b then -1 else if b<a then 1 else 0):=by
 unfold kD oJ nJ rZ
 have e:∀x:Int,ine x x=false:=fun x=>by simp[ine]
 rw[e,e,À,À,ë,ë]
 by_cases h:a<b
 ·rw[Ü (decide_eq_true h),if_pos h]
 ·rw[Ò (decide_eq_false h),if_neg h]
  by_cases h2:b<a
  ·rw[Ü (decide_eq_true h2),if_pos h2]
  ·rw[Ò (decide_eq_false h2),if_neg h2]
def T7 {x y:Way} (hx:Ĺ m x=some (ĝ m x)) (hy:Ĺ m y=some (ĝ m y)):kv x y m=some (if ĝ m x<ĝ m y then -1 else if ĝ m y<ĝ m x then 1 else 0):=by
 unfold kv HF;rw[hx,À,hy,À,aiW,À]
def aaa {x y:Way} (hx:Ĺ m x=some (ĝ m x)) (hy:Ĺ m y=some (ĝ m y)) (X Y:Option ρ):(Ä (kv x y m) fun r=>ifb (ilt r (0:Int)) X Y)=if ĝ m x<ĝ m y then X else Y:=by
 rw[T7 hx hy,À]
 by_cases h:ĝ m x<ĝ m y
 ·rw[if_pos h,if_pos h]; rfl
 ·rw[if_neg h,if_neg h]
  by_cases h2:ĝ m y<ĝ m x
  ·rw[if_pos h2]; rfl
  ·rw[if_neg h2]; rfl
def aiF {α:Type} (A:List α) (x:α) (B:List α):(A++x::B)[A.length]?=some x:=by simp
def aif {α:Type} (A:List α) (x y:α) (B:List α):(A++x::B).set A.length y=A++y::B:=by simp
def jA {α:Type} {l A B:List α} {x:α} {i:Int} (h:l=A++x::B) (hi:i=A.length) (K:α→Option ρ):(è ((ile (0:Int) i)&&(ilt i (ú l))) (Ŝ l (Int.toNat i) K))=K x:=by
 subst h hi;rw[ÿ (by simp[ile,ilt,ú]; omega),cT,i9 (aiF A x B)]
def I7 {α:Type} {l A B:List α} {x:α} {i:Int} (h:l=A++x::B) (hi:i=A.length) (y:α):List.set l (Int.toNat i) y=A++y::B:=by
 subst h hi;rw[cT,aif]
def ins_L1 {c0:Int} {A C:List Way} {x y:Way} (hx:Ĺ m x=some (ĝ m x)) (hy:Ĺ m y=some (ĝ m y)) (hc:c0≤A.length) (hl:A.length≤1000000) (kn:Int→List Way→Option ρ) (k0:List Way→Option ρ) :
 î c0 m.1.1.1 m.1.1.2 m.1.2.1 m.1.2.2.1 m.1.2.2.2.1 m.1.2.2.2.2.1 m.1.2.2.2.2.2 m.2 ((A.length:Int)+1) (A++y::x::C) kn k0 =
  if ĝ m x<ĝ m y then kn A.length (A++x::y::C) else k0 (A++y::x::C):=by
 have e1:((A.length:Int)+1-1)=A.length:=by omega
 have s1:A++y::x::C=(A++[y])++x::C:=by simp
 have l1:((A.length:Int)+1)=(A++[y]).length:=by simp
 unfold î;rw[Ü (decide_eq_true (by omega)),jA s1 l1,e1,Ð (by omega) (by omega),jA (A:=A) (x:=y) (B:=x::C) rfl rfl];refine(aaa hx hy _ _).trans ?_
 split
 ·rw[Ð (by omega) (by omega),Ð (by omega) (by omega),jA (A:=A) (x:=y) (B:=x::C) rfl rfl,jA s1 l1,jA s1 l1,I7 s1 l1]
  have s2:A++[y]++y::C=A++y::y::C:=by simp
  rw[s2,jA (A:=A) (x:=y) (B:=y::C) rfl rfl,I7 (A:=A) (x:=y) (B:=y::C) rfl rfl,Ð (by omega) (by omega)]
 ·rfl
def agw {c0:Int} {P S Q:List Way} {x:Way} (hP:c0=P.length) (hS:Srt (ĝ m) S) (hW:WOk m (x::S)) (hl:P.length+S.length≤1000000) (K:List Way→Option ρ) :
 Í (fun(v:Int×List Way) kk=>î c0 m.1.1.1 m.1.1.2 m.1.2.1 m.1.2.2.1 m.1.2.2.2.1 m.1.2.2.2.2.1 m.1.2.2.2.2.2 m.2 v.1 v.2 (fun a b=>kk (a,b)) K) (((P.length+S.length:Nat):Int),P++(S++x::Q))=K (P++(ő (ĝ m) (S++[x])++Q)):=by
 subst hP;have hxW:=hW x (by simp)
 -- when it stops
 have stop:∀A B:List Way,S=A++B→(∀t∈B,ĝ m x<ĝ m t)→(∀t∈A,ĝ m t≤ĝ m x)→ő (ĝ m) (S++[x])=A++x::B:=fun A B hAB hB hA=>by
  subst hAB;obtain⟨h1,h2,h3⟩:=hS.parts;refine yk ?_ ?_
  ·refine h1.append (List.Pairwise.cons (fun t ht=>by have:=hB t ht; omega) h2) fun a ha b hb=>?_;rcases cN.1 hb with rfl|hb
   ·exact hA a ha
   ·exact h3 a ha b hb
  ·have:=Stb.swap (key:=ĝ m) (u:=B) (v:=[x]) (fun a ha b hb=>by simp at hb; subst hb; have:=hB a ha; omega);have h4:=(Stb.refl (key:=ĝ m) A).append this;rw[←cR] at h4;exact h4
 refine đ (fun v:Int×List Way=>∃A B:List Way,S=A++B∧(∀t∈B,ĝ m x<ĝ m t)∧v=(((P.length+A.length:Nat):Int),P++(A++x::(B++Q)))) (fun v=>v.1.toNat) ?_ ⟨S,[],by simp,by simp,by simp⟩;rintro v ⟨A,B,hAB,hB,rfl⟩
 cases hA:A.reverse with
 |nil =>
  have hA0:A=[]:=by simpa using hA
  subst hA0;refine .inl fun kn=>?_;dsimp only;unfold î;rw[Ò (decide_eq_false (by simp)),stop [] B hAB hB (by simp)];simp
 |cons y A' =>
  have hA0:A=A'.reverse++[y]:=by
   have:=congrArg List.reverse hA;simpa using this
  generalize A'.reverse=A1 at hA0;subst hA0;have hyW:Ĺ m y=some (ĝ m y):=hW y (by rw[hAB]; simp)
  have hstep:∀kn:Int×List Way→Option ρ,î (P.length:Int) m.1.1.1 m.1.1.2 m.1.2.1 m.1.2.2.1 m.1.2.2.2.1 m.1.2.2.2.2.1 m.1.2.2.2.2.2 m.2 ((P.length+(A1++[y]).length:Nat):Int) (P++(A1++[y]++x::(B++Q))) (fun a b=>kn (a,b)) K =
   if ĝ m x<ĝ m y then kn (((P.length+A1.length:Nat):Int),P++(A1++x::(y::B++Q))) else K (P++(A1++[y]++x::(B++Q))):=fun kn=>by
   have e1:((P.length+(A1++[y]).length:Nat):Int)=((P++A1).length:Int)+1:=by simp; omega
   have e2:P++(A1++[y]++x::(B++Q))=(P++A1)++y::x::(B++Q):=by simp
   have hlen:A1.length≤S.length:=by rw[hAB]; simp
   rw[e1,e2,ins_L1 hxW hyW (by simp; omega) (by simp; omega)];simp
  by_cases hxy:ĝ m x<ĝ m y
  ·refine .inr ⟨(((P.length+A1.length:Nat):Int),P++(A1++x::(y::B++Q))),⟨A1,y::B,by rw[hAB]; simp,fun t ht=>?_,rfl⟩,by simp; omega,fun kn=>(hstep kn).trans (if_pos hxy)⟩;rcases cN.1 ht with rfl|ht
   ·exact hxy
   ·exact hB t ht
  ·refine .inl fun kn=>(hstep kn).trans ?_;rw[if_neg hxy,stop (A1++[y]) B hAB hB fun t ht=>?_]
   ·simp
   ·obtain⟨h1,_,_⟩:=Srt.parts (hAB▸hS);obtain⟨_,_,h3⟩:=Srt.parts h1;rcases cM.1 ht with ht|ht
    ·have:=h3 t ht y (by simp); omega
    ·simp at ht; subst ht; omega
def WOk.sub {l s:List Way} (h:WOk m l) (hs:∀x∈s,x∈l):WOk m s:=fun x hx=>h x (hs x hx)
def Ju {P M Q:List Way} (hW:WOk m M) (hl:P.length+M.length≤1000000):í (P++(M++Q)) P.length ((P.length+M.length:Nat):Int) m=some (P++(ő (ĝ m) M++Q),m):=by
 unfold í Δ;rw[Ð (by omega) (by omega)];refine đ (fun v:Int×List Way=>(M.length=0∧v=((P.length:Int)+1,P++(M++Q)))∨∃k:Nat,1≤k∧k≤M.length∧v=(((P.length+k:Nat):Int),P++(ő (ĝ m) (M.take k)++(M.drop k++Q)))) (fun v=>(P.length+M.length+1)-v.1.toNat) ?_ ?_
 ·rintro v (⟨h0,rfl⟩|⟨k,hk1,hk2,rfl⟩)
  ·refine .inl fun kn=>?_;have:M=[]:=List.length_eq_zero_iff.1 h0;subst this;dsimp only;unfold ē;rw[Ò (decide_eq_false (by simp; omega))];rfl
  ·rcases gd hk2 with h|rfl
   ·have hg:M[k]?=some M[k]:=cF h;have hd:M.drop k=M[k]::M.drop (k+1):=dF h;have ht:M.take (k+1)=M.take k++[M[k]]:=take_succ hg;have hmem:M[k]∈M:=eN h;generalize M[k]=x at hg hd ht hmem
    have hlk:(ő (ĝ m) (M.take k)).length=k:=by rw[(Ť _).length]; simp; omega
    refine .inr ⟨(((P.length+(k+1):Nat):Int),P++(ő (ĝ m) (M.take (k+1))++(M.drop (k+1)++Q))),.inr ⟨k+1,by omega,h,rfl⟩,by dsimp only; omega,fun kn=>?_⟩;dsimp only;unfold ē;rw[Ü (decide_eq_true (by omega)),hd]
    have:=agw (m:=m) (c0:=(P.length:Int)) (P:=P) (S:=ő (ĝ m) (M.take k)) (Q:=M.drop (k+1)++Q) (x:=x) rfl (lQ _) (fun y hy=>by
     rcases cN.1 hy with rfl|hy
     ·exact hW _ hmem
     ·exact hW _ (fU ((Ť _).mem.1 hy))) (by omega) (fun z13=>ck (((P.length+k:Nat):Int)+(1:Int)) fun n14=>kn (n14,z13))
    rw[hlk] at this;refine this.trans ?_;rw[Ð (by omega) (by omega)];congr 1;refine Prod.ext (by dsimp only; omega) ?_;dsimp only
    have e:ő (ĝ m) (ő (ĝ m) (M.take k)++[x])=ő (ĝ m) (M.take (k+1)):=by
     rw[ht];exact yk (lQ _) (((Ť (M.take k)).append (Stb.refl [x])).symm.trans (Ť _))
    rw[e]
   ·refine .inl fun kn=>?_;dsimp only;unfold ē;rw[Ò (decide_eq_false (by omega))];simp
 ·cases M with
  |nil=>exact .inl ⟨rfl,rfl⟩
  |cons a M =>
   refine .inr ⟨1,cG _,by simp,?_⟩;refine Prod.ext (by simp) ?_;simp[ő,abP]
end
section
variable {ρ:Type} {m:Ū}
def rot_L2:@iU ρ=@Ē ρ:=rfl
def rot_L3:@iT ρ=@Ē ρ:=rfl
def wW {A U B V C:List Way} (hn:V.length=U.length) {a b n:Int} (ha:a=A.length) (hb:b=((A.length+U.length+B.length:Nat):Int)) (hnn:n=U.length) (hl:A.length+U.length+B.length+V.length≤1000000) (K:List Way→Option ρ) :
 Í (fun(v:Int×List Way) kk=>Ē a b n v.1 v.2 (fun x y=>kk (x,y)) K) ((0:Int),A++(U++(B++(V++C))))=K (A++(V++(B++(U++C)))):=by
 subst ha hb hnn;refine ĵ (List.replicate U.length ()) (fun i=>A++(V.take i++(U.drop i++(B++(U.take i++(V.drop i++C)))))) _ (by simp) (fun i x hi hx kn=>?_) (fun kn=>?_)
 ·try dsimp only
  rw[fp] at hi;have hu:U.drop i=U[i]::U.drop (i+1):=dF hi;have hv:V.drop i=V[i]::V.drop (i+1):=dF (by omega);have htu:U.take (i+1)=U.take i++[U[i]]:=take_succ (cF hi);have htv:V.take (i+1)=V.take i++[V[i]]:=take_succ (cF (by omega));generalize U[i]=u at hu htu;generalize V[i]=v at hv htv
  have lu:(U.take i).length=i:=by simp; omega
  have lv:(V.take i).length=i:=by simp; omega
  have ldu:(U.drop (i+1)).length=U.length-(i+1):=by simp
  rw[hu,hv,htu,htv];generalize U.drop (i+1)=U2 at *;generalize V.drop (i+1)=V2 at *;generalize U.take i=U1 at *;generalize V.take i=V1 at *;unfold Ē
  -- the places
  have s1:A++(V1++(u::U2++(B++(U1++(v::V2++C)))))=(A++V1)++u::(U2++(B++(U1++(v::V2++C)))):=by simp
  have s2:A++(V1++(u::U2++(B++(U1++(v::V2++C)))))=(A++(V1++(u::U2++(B++U1))))++v::(V2++C):=by simp
  have p1:(A.length:Int)+i=(A++V1).length:=by simp; omega
  have p2:((A.length+U.length+B.length:Nat):Int)+i=(A++(V1++(u::U2++(B++U1)))).length:=by simp; omega
  have s3:(A++V1)++v::(U2++(B++(U1++(v::V2++C))))=(A++(V1++(v::U2++(B++U1))))++v::(V2++C):=by simp
  have p3:((A.length+U.length+B.length:Nat):Int)+i=(A++(V1++(v::U2++(B++U1)))).length:=by simp; omega
  rw[Ü (decide_eq_true (by omega)),Ð (by omega) (by omega),Ð (by omega) (by omega),Ð (by omega) (by omega),jA s2 p2,Ð (by omega) (by omega),jA s1 p1,jA s1 p1,I7 s1 p1,jA s3 p3,I7 s3 p3,Ð (by omega) (by omega)];simp
 ·try dsimp only
  unfold Ē;rw[List.length_replicate,Ò (decide_eq_false (by omega))];rw[List.take_of_length_le (l:=V) (by omega),List.drop_of_length_le (l:=U) (by omega),List.take_of_length_le (l:=U) (by omega),List.drop_of_length_le (l:=V) (by omega)];simp
def ac1 {A U V C:List Way} (hU:1≤U.length) (hV:1≤V.length) (hl:A.length+U.length+V.length≤1000000) :
 Ņ (A++(U++(V++C))) A.length ((A.length+U.length:Nat):Int) ((A.length+U.length+V.length:Nat):Int) m=some (A++(V++(U++C)),m):=by
 unfold Ņ jW;rw[Ð (by omega) (by omega),Ð (by omega) (by omega)];refine đ (fun v:Int×Int×List Way=>∃L X Y R:List Way,1≤X.length∧1≤Y.length∧L.length+X.length=U.length∧Y.length+R.length=V.length∧L++(Y++(X++R))=V++U∧v=((X.length:Int),(Y.length:Int),A++(L++(X++(Y++(R++C)))))) (fun v=>v.1.toNat+v.2.1.toNat) ?_ ⟨[],U,V,[],hU,hV,by simp,by simp,by simp,?_⟩
 rotate_left
 ·rw[Prod.mk.injEq,Prod.mk.injEq];refine⟨?_,?_,by simp⟩
  ·show((A.length+U.length:Nat):Int)-(A.length:Int)=(U.length:Int);omega
  ·show((A.length+U.length+V.length:Nat):Int)-((A.length+U.length:Nat):Int)=(V.length:Int);omega
 rintro v ⟨L,X,Y,R,hX,hY,h1,h2,h3,rfl⟩
 by_cases hxy:X.length=Y.length
 ·refine .inl fun kn=>?_;dsimp only;unfold Ń;rw[Ò (by simp[ine,hxy])];dsimp only;rw[rot_L3,Ð (by omega) (by omega)];have:=wW (A:=A++L) (U:=X) (B:=[]) (V:=Y) (C:=R++C) hxy.symm (a:=((A.length+U.length:Nat):Int)-X.length) (b:=((A.length+U.length:Nat):Int)) (n:=X.length) (by simp; omega) (by simp; omega) rfl (by simp; omega) (fun z48=>some (z48,m))
  have e1:(A++L)++(X++([]++(Y++(R++C))))=A++(L++(X++(Y++(R++C)))):=by simp
  rw[e1] at this;refine this.trans ?_
  have e2:A++L++(Y++([]++(X++(R++C))))=A++((L++(Y++(X++R)))++C):=by simp
  rw[e2,h3];simp
 ·by_cases hgt:Y.length<X.length
  ·-- the first part of X and Y change places
   have l1:(X.take Y.length).length=Y.length:=by simp; omega
   have l2:(X.drop Y.length).length=X.length-Y.length:=by simp
   have ex:X=X.take Y.length++X.drop Y.length:=(dQ _ _).symm;generalize X.take Y.length=X1 at l1 ex;generalize X.drop Y.length=X2 at l2 ex;subst ex;refine .inr ⟨((X2.length:Int),(X1.length:Int),A++((L++Y)++(X2++(X1++(R++C))))),⟨L++Y,X2,X1,R,by simp at l2 hgt; omega,by omega,by simp at h1 ⊢; omega,by omega,?_,rfl⟩,by simp at l2 ⊢; omega,fun kn=>?_⟩
   ·rw[←h3]; simp
   ·dsimp only;unfold Ń;have hg1:ine ((X1++X2).length:Int) (Y.length:Int)=true:=bne_iff_ne.2 (by omega);rw[Ü hg1,Ü (decide_eq_true (by omega)),Ð (by simp at h1 ⊢; omega) (by simp at h1 ⊢; omega)];have:=wW (A:=A++L) (U:=X1) (B:=X2) (V:=Y) (C:=R++C) l1.symm (a:=((A.length+U.length:Nat):Int)-(X1++X2).length) (b:=((A.length+U.length:Nat):Int)) (n:=Y.length) (by simp at h1 ⊢; omega) (by simp at h1 ⊢; omega) (by omega) (by simp at h1 ⊢; omega) (fun z13=>ck (((X1++X2).length:Int)-(Y.length:Int)) fun n14=>kn (n14,((Y.length:Int),z13)))
    have e1:(A++L)++(X1++(X2++(Y++(R++C))))=A++(L++(X1++X2++(Y++(R++C)))):=by simp
    rw[e1] at this;refine this.trans ?_;rw[Ð (by simp; omega) (by simp; omega)];congr 1;rw[Prod.mk.injEq,Prod.mk.injEq];exact⟨by simp; omega,by omega,by simp⟩
  ·have l1:(Y.drop (Y.length-X.length)).length=X.length:=by simp; omega
   have l2:(Y.take (Y.length-X.length)).length=Y.length-X.length:=by simp
   have ey:Y=Y.take (Y.length-X.length)++Y.drop (Y.length-X.length):=(dQ _ _).symm;generalize Y.take (Y.length-X.length)=Y1 at l2 ey;generalize Y.drop (Y.length-X.length)=Y2 at l1 ey;subst ey;refine .inr ⟨((Y2.length:Int),(Y1.length:Int),A++(L++(Y2++(Y1++((X++R)++C))))),⟨L,Y2,Y1,X++R,by omega,by simp at l2 hxy hgt; omega,by omega,by simp at h2 ⊢; omega,?_,rfl⟩,by simp at l2 ⊢; omega,fun kn=>?_⟩
   ·rw[←h3]; simp
   ·dsimp only;unfold Ń;have hg1:ine (X.length:Int) ((Y1++Y2).length:Int)=true:=bne_iff_ne.2 (by omega);rw[Ü hg1,Ò (decide_eq_false (by omega)),rot_L2,Ð (by omega) (by omega),Ð (by simp at h2 ⊢; omega) (by simp at h2 ⊢; omega),Ð (by simp at h2 ⊢; omega) (by simp at h2 ⊢; omega)];have:=wW (A:=A++L) (U:=X) (B:=Y1) (V:=Y2) (C:=R++C) l1 (a:=((A.length+U.length:Nat):Int)-X.length) (b:=((A.length+U.length:Nat):Int)+((Y1++Y2).length:Int)-X.length) (n:=X.length) (by simp; omega) (by simp; omega) rfl (by simp at h2 ⊢; omega) (fun z31=>ck (((Y1++Y2).length:Int)-(X.length:Int)) fun n32=>kn ((X.length:Int),(n32,z31)))
    have e1:(A++L)++(X++(Y1++(Y2++(R++C))))=A++(L++(X++(Y1++Y2++(R++C)))):=by simp
    rw[e1] at this;refine this.trans ?_;rw[Ð (by simp; omega) (by simp; omega)];congr 1;rw[Prod.mk.injEq,Prod.mk.injEq];exact⟨by omega,by simp; omega,by simp⟩
end
def aiE {n:Nat} (h:n≤10000000):IntKind.wrap .i64 (jy .u64 (IntKind.wrap .u64 (n:Int)) (1:Int))=((n / 2:Nat):Int):=by
 have e1:IntKind.wrap .u64 (n:Int)=n:=by
  simp[IntKind.wrap,IntKind.bits,IntKind.signed];omega
 rw[e1]
 have e2:jy .u64 (n:Int) 1=((n / 2:Nat):Int):=by
  unfold jy
  have:(2:Int) ^ (min (Int.toNat 1) IntKind.u64.bits)=2:=by decide
  rw[this,Int.fdiv_eq_ediv_of_nonneg _ (by omega)];omega
 rw[e2];simp[IntKind.wrap,IntKind.bits,IntKind.signed];omega
section
variable {ρ:Type} {m:Ū}
abbrev afv:=List Way→Int→Int→Int→Ū→Option (List Way×Ū)
def aaP (p:Nat→Prop) [DecidablePred p] {lo:Nat}:∀(n:Nat),(∀c c',lo≤c→c≤c'→c'<lo+n→p c'→p c)→∃s,lo≤s∧s≤lo+n∧(∀c,lo≤c→c<s→p c)∧∀c,s≤c→c<lo+n→¬p c
 |0,_=>⟨lo,cG _,cG _,fun c h1 h2=>by omega,fun c h1 h2=>by omega⟩
 |n+1,hm=>by
  obtain⟨s,h1,h2,h3,h4⟩:=aaP p (lo:=lo) n fun c c' a1 a2 a3=>hm c c' a1 a2 (by omega)
  by_cases hp:p (lo+n)
  ·exact⟨lo+n+1,by omega,by omega,fun c q1 q2=>hm c (lo+n) q1 (by omega) (by omega) hp,fun c q1 q2=>by omega⟩
  ·refine⟨s,h1,by omega,h3,fun c q1 q2=>?_⟩
   by_cases e:c=lo+n
   ·rw[e]; exact hp
   ·exact h4 c q1 (by omega)
def Zb {f:Int×Int→(Int×Int→Option ρ)→Option ρ} {K:Int→Option ρ} {lo hi:Nat} (hlh:lo≤hi) (p:Nat→Prop) [DecidablePred p] (mono:∀c c',lo≤c→c≤c'→c'<hi→p c'→p c)
 (step:∀i j:Nat,lo≤i→i<j→j≤hi→∀kn,f ((i:Int),(j:Int)) kn=if p ((i+j) / 2) then kn ((((i+j) / 2+1:Nat):Int),(j:Int)) else kn ((i:Int),(((i+j) / 2:Nat):Int)))
 (stop:∀i:Nat,lo≤i→i≤hi→∀kn,f ((i:Int),(i:Int)) kn=K i) :
 ∃s,lo≤s∧s≤hi∧(∀c,lo≤c→c<s→p c)∧(∀c,s≤c→c<hi→¬p c)∧Í f ((lo:Int),(hi:Int))=K (s:Nat):=by
 obtain⟨s,h1,h2,h3,h4⟩:=aaP p (lo:=lo) (hi-lo) fun c c' a1 a2 a3=>mono c c' a1 a2 (by omega);refine⟨s,h1,by omega,h3,fun c q1 q2=>h4 c q1 (by omega),?_⟩;refine đ (fun v:Int×Int=>∃i j:Nat,lo≤i∧i≤s∧s≤j∧j≤hi∧v=((i:Int),(j:Int))) (fun v=>v.2.toNat-v.1.toNat) ?_ ⟨lo,hi,cG _,h1,by omega,cG _,rfl⟩;rintro v ⟨i,j,q1,q2,q3,q4,rfl⟩;rcases df i j with h|h
 ·by_cases hp:p ((i+j) / 2)
  ·refine .inr ⟨_,⟨(i+j) / 2+1,j,by omega,?_,q3,q4,rfl⟩,by dsimp only; omega,fun kn=>by rw[step i j q1 h q4,if_pos hp]⟩;rcases Nat.lt_or_ge ((i+j) / 2) s with h5|h5
   ·omega
   ·exact absurd hp (h4 _ h5 (by omega))
  ·refine .inr ⟨_,⟨i,(i+j) / 2,q1,q2,?_,by omega,rfl⟩,by dsimp only; omega,fun kn=>by rw[step i j q1 h q4,if_neg hp]⟩;rcases Nat.lt_or_ge ((i+j) / 2) s with h5|h5
   ·exact absurd (h3 _ (by omega) h5) hp
   ·exact h5
 ·obtain rfl:i=j:=by omega
  obtain rfl:i=s:=by omega
  exact .inl fun kn=>stop i q1 q4 kn
def aby (rec:afv) {P B C:List Way} {x:Way} {c0:Int} (hc:c0=((P.length+B.length+1:Nat):Int)) (hl:P.length+B.length≤1000000) (K:List Way→Option ρ) :
 Í (fun(v:Int×List Way) kk=>ô rec c0 v.1 v.2 (fun a b=>kk (a,b)) K) ((P.length:Int),P++(x::(B++C)))=K (P++(B++x::C)):=by
 subst hc;refine đ (fun v:Int×List Way=>∃B1 B2:List Way,B=B1++B2∧v=(((P.length+B1.length:Nat):Int),P++(B1++x::(B2++C)))) (fun v=>(P.length+B.length+1)-v.1.toNat) ?_ ⟨[],B,rfl,rfl⟩;rintro v ⟨B1,B2,hB,rfl⟩
 cases B2 with
 |nil =>
  refine .inl fun kn=>?_;rw[List.append_nil] at hB;subst hB;dsimp only;unfold ô;rw[Ð (by omega) (by omega),Ò (decide_eq_false (by omega))];rfl
 |cons y B2 =>
  have hlen:B.length=B1.length+B2.length+1:=by rw[hB]; simp; omega
  refine .inr ⟨(((P.length+(B1++[y]).length:Nat):Int),P++((B1++[y])++x::(B2++C))),⟨B1++[y],B2,by rw[hB]; simp,rfl⟩,by simp; omega,fun kn=>?_⟩;dsimp only;unfold ô
  have s1:P++(B1++x::(y::B2++C))=(P++B1)++x::(y::(B2++C)):=by simp
  have p1:((P.length+B1.length:Nat):Int)=(P++B1).length:=by simp
  have s2:P++(B1++x::(y::B2++C))=(P++B1++[x])++y::(B2++C):=by simp
  have p2:((P.length+B1.length:Nat):Int)+1=(P++B1++[x]).length:=by simp; omega
  have s3:(P++B1)++y::(y::(B2++C))=(P++B1++[y])++y::(B2++C):=by simp
  have p3:((P.length+B1.length:Nat):Int)+1=(P++B1++[y]).length:=by simp; omega
  rw[Ð (by omega) (by omega),Ü (decide_eq_true (by omega)),Ð (by omega) (by omega),Ð (by omega) (by omega),jA s2 p2,jA s1 p1,jA s1 p1,I7 s1 p1,jA s3 p3,I7 s3 p3,Ð (by omega) (by omega)];congr 1
  ·simp; omega
  ·simp
def ady (rec:afv) {P B C:List Way} {x:Way} {c0:Int} (hc:c0=(P.length:Int)) (hl:P.length+B.length≤1000000) (K:List Way→Option ρ) :
 Í (fun(v:Int×List Way) kk=>ó rec c0 v.1 v.2 (fun a b=>kk (a,b)) K) (((P.length+B.length:Nat):Int),P++(B++x::C))=K (P++(x::(B++C))):=by
 subst hc;refine đ (fun v:Int×List Way=>∃B1 B2:List Way,B=B1++B2∧v=(((P.length+B1.length:Nat):Int),P++(B1++x::(B2++C)))) (fun v=>v.1.toNat) ?_ ⟨B,[],by simp,by simp⟩;rintro v ⟨B1,B2,hB,rfl⟩
 cases hB1:B1.reverse with
 |nil =>
  have:B1=[]:=by simpa using hB1
  subst this;refine .inl fun kn=>?_;dsimp only;unfold ó;rw[Ò (decide_eq_false (by simp)),hB];simp
 |cons y B3 =>
  have hA0:B1=B3.reverse++[y]:=by
   have:=congrArg List.reverse hB1;simpa using this
  generalize B3.reverse=A1 at hA0;subst hA0
  have hlen:B.length=A1.length+1+B2.length:=by rw[hB]; simp; omega
  refine .inr ⟨(((P.length+A1.length:Nat):Int),P++(A1++x::(y::B2++C))),⟨A1,y::B2,by rw[hB]; simp,rfl⟩,by simp; omega,fun kn=>?_⟩;dsimp only;unfold ó
  have e0:((P.length+(A1++[y]).length:Nat):Int)-1=((P.length+A1.length:Nat):Int):=by simp; omega
  have s1:P++(A1++[y]++x::(B2++C))=(P++A1)++y::(x::(B2++C)):=by simp
  have p1:((P.length+A1.length:Nat):Int)=(P++A1).length:=by simp
  have s2:P++(A1++[y]++x::(B2++C))=(P++A1++[y])++x::(B2++C):=by simp
  have p2:((P.length+(A1++[y]).length:Nat):Int)=(P++A1++[y]).length:=by simp
  have s3:(P++A1++[y])++y::(B2++C)=(P++A1)++y::(y::(B2++C)):=by simp
  rw[Ü (decide_eq_true (by simp; omega)),e0,Ð (by omega) (by omega),Ð (by omega) (by omega),jA s1 p1,jA s2 p2,jA s2 p2,I7 s2 p2,jA s3 p1,I7 s3 p1,Ð (by omega) (by omega)];congr 1;simp
end
section
variable {ρ:Type} {m:Ū}
def symS (rec:afv) (mid e b:Int) (k:List Way×Ū→Option ρ) (l:List Way) (mm:Ū):Option ρ :=
 ifb (ilt mid e) (ifb (ilt e b) (Ä (rec l mid e b mm) fun r=>k (r.1,r.2)) (k (l,mm))) (k (l,mm))
def symR (rec:afv) (a z mid e b:Int) (k:List Way×Ū→Option ρ) (l:List Way) (mm:Ū):Option ρ :=
 ifb (ilt a z) (ifb (ilt z mid) (Ä (rec l a z mid mm) fun r=>symS rec mid e b k r.1 r.2) (symS rec mid e b k l mm)) (symS rec mid e b k l mm)
def aia (rec:afv) (l:List Way) (a c b mid n:Int) (mm:Ū) (k:List Way×Ū→Option ρ) (z:Int):Option ρ :=
 ck (n-z) fun e=>ifb (ilt z c) (ifb (ilt c e) (Ä (Ņ l z c e mm) fun r=>symR rec a z mid e b k r.1 r.2) (symR rec a z mid e b k l mm)) (symR rec a z mid e b k l mm)
def abS (n:Int):Int:=IntKind.wrap .i64 (jy .u64 (IntKind.wrap .u64 n) (1:Int))
def sym_eq (rec:afv) (l:List Way) (a c b:Int) (mm:Ū) (k:List Way×Ū→Option ρ):ĭ rec l a c b mm k =
 ck (c-a) fun n1=>ifb (ieq n1 (1:Int)) (Í (fun(v:Int×Int) kk=>ā rec a l mm.1.1.1 mm.1.1.2 mm.1.2.1 mm.1.2.2.1 mm.1.2.2.2.1 mm.1.2.2.2.2.1 mm.1.2.2.2.2.2 mm.2 v.1 v.2 (fun x y=>kk (x,y)) (fun z7=>Í (fun(v:Int×List Way) kk=>ô rec z7 v.1 v.2 (fun x y=>kk (x,y)) (fun z16=>k (z16,mm))) (a,l))) (c,b))
  (ck (b-c) fun n25=>ifb (ieq n25 (1:Int)) (Í (fun(v:Int×Int) kk=>Ā rec c l mm.1.1.1 mm.1.1.2 mm.1.2.1 mm.1.2.2.1 mm.1.2.2.2.1 mm.1.2.2.2.2.1 mm.1.2.2.2.2.2 mm.2 v.1 v.2 (fun x y=>kk (x,y)) (fun z31=>Í (fun(v:Int×List Way) kk=>ó rec z31 v.1 v.2 (fun x y=>kk (x,y)) (fun z39=>k (z39,mm))) (c,l))) (a,c))
   (ck (a+b) fun n48=>ck (abS n48+c) fun n49=>ifb (igt c (abS n48))
    (ck (n49-b) fun n50=>ck (n49-(1:Int)) fun n51=>Í (fun(v:Int×Int) kk=>á rec n51 l mm.1.1.1 mm.1.1.2 mm.1.2.1 mm.1.2.2.1 mm.1.2.2.2.1 mm.1.2.2.2.2.1 mm.1.2.2.2.2.2 mm.2 v.1 v.2 (fun x y=>kk (x,y)) (aia rec l a c b (abS n48) n49 mm k)) (n50,abS n48))
    (ck (n49-(1:Int)) fun n77=>Í (fun(v:Int×Int) kk=>á rec n77 l mm.1.1.1 mm.1.1.2 mm.1.2.1 mm.1.2.2.1 mm.1.2.2.2.1 mm.1.2.2.2.2.1 mm.1.2.2.2.2.2 mm.2 v.1 v.2 (fun x y=>kk (x,y)) (aia rec l a c b (abS n48) n49 mm k)) (a,c)))):=rfl
def RecOk (rec:afv) (m:Ū) (N:Nat):Prop:=∀P U V Q:List Way,1≤U.length→1≤V.length→U.length+V.length≤N→Srt (ĝ m) U→Srt (ĝ m) V→WOk m (U++V)→P.length+U.length+V.length≤1000000 →
 rec (P++(U++(V++Q))) P.length ((P.length+U.length:Nat):Int) ((P.length+U.length+V.length:Nat):Int) m=some (P++(ő (ĝ m) (U++V)++Q),m)
def uk {l:List Way} (h:Srt (ĝ m) l):ő (ĝ m) l=l:=yk h (Stb.refl l)
def si (l:List Way):(ő (ĝ m) l).length=l.length:=(Ť l).length
def afP {rec:afv} {N:Nat} (hrec:RecOk rec m N) {P u1 u2 v1 v2 Q:List Way} (s1:u1.length+v1.length≤N) (s2:u2.length+v2.length≤N) (hU:Srt (ĝ m) (u1++u2)) (hV:Srt (ĝ m) (v1++v2))
 (F1:∀x∈u2,∀y∈v1,ĝ m y<ĝ m x) (F2:∀x∈u1,∀y∈v2,ĝ m x≤ĝ m y) (hW:WOk m ((u1++u2)++(v1++v2))) (hl:P.length+u1.length+u2.length+v1.length+v2.length≤1000000)
 {a c b mid n z:Int} (ea:a=P.length) (ec:c=((P.length+u1.length+u2.length:Nat):Int)) (eb:b=((P.length+u1.length+u2.length+v1.length+v2.length:Nat):Int)) (emid:mid=((P.length+u1.length+v1.length:Nat):Int)) (ez:z=((P.length+u1.length:Nat):Int)) (en:n-z=((P.length+u1.length+u2.length+v1.length:Nat):Int)) :
 aia rec (P++((u1++u2)++((v1++v2)++Q))) a c b mid n m some z=some (P++(ő (ĝ m) ((u1++u2)++(v1++v2))++Q),m):=by
 obtain⟨hU1,hU2,hU3⟩:=hU.parts;obtain⟨hV1,hV2,hV3⟩:=hV.parts;subst ea ec eb emid ez
 have fin:ő (ĝ m) ((u1++u2)++(v1++v2))=ő (ĝ m) (u1++v1)++ő (ĝ m) (u2++v2):=by
  refine yk ?_ ?_
  ·refine(lQ _).append (lQ _) fun x hx y hy=>?_;have hx:=(Ť _).mem.1 hx;have hy:=(Ť _).mem.1 hy
   rcases cM.1 hx with hx|hx<;>rcases cM.1 hy with hy|hy
   ·exact hU3 x hx y hy
   ·exact F2 x hx y hy
   ·have:=F1 y hy x hx; omega
   ·exact hV3 x hx y hy
  ·have q:Stb (ĝ m) (u2++v1) (v1++u2):=Stb.swap fun x hx y hy=>by have:=F1 x hx y hy; omega
   have q2:=((Stb.refl (key:=ĝ m) u1).append (q.append (Stb.refl v2)))
   have e1:u1++(u2++v1++v2)=u1++u2++(v1++v2):=by simp
   have e2:u1++(v1++u2++v2)=(u1++v1)++(u2++v2):=by simp
   rw[e1,e2] at q2;exact q2.trans ((Ť _).append (Ť _))
 have lI:(ő (ĝ m) (u1++v1)).length=u1.length+v1.length:=by rw[si]; simp
 have hS:symS rec ((P.length+u1.length+v1.length:Nat):Int) ((P.length+u1.length+u2.length+v1.length:Nat):Int) ((P.length+u1.length+u2.length+v1.length+v2.length:Nat):Int) some (P++(ő (ĝ m) (u1++v1)++(u2++(v2++Q)))) m=some (P++(ő (ĝ m) ((u1++u2)++(v1++v2))++Q),m):=by
  rw[fin];unfold symS
  by_cases h1:u2=[]
  ·subst h1;rw[Ò (decide_eq_false (by simp))];simp only[dL,cR];rw[uk hV2]
  by_cases h2:v2=[]
  ·subst h2;have q:ilt ((P.length+u1.length+u2.length+v1.length:Nat):Int) ((P.length+u1.length+u2.length+v1.length+([]:List Way).length:Nat):Int)=false:=decide_eq_false (by simp);rw[q,ë];simp only[dL,dh,cR];rw[uk hU2]
   cases ilt ((P.length+u1.length+v1.length:Nat):Int) ((P.length+u1.length+u2.length+v1.length:Nat):Int)<;>rfl
  have k1:1≤u2.length:=dY.2 h1;have k2:1≤v2.length:=dY.2 h2
  have:=hrec (P++ő (ĝ m) (u1++v1)) u2 v2 Q k1 k2 s2 hU2 hV2 (hW.sub fun x hx=>by
   rcases cM.1 hx with hx|hx<;>simp[hx]) (by rw[cJ,lI]; omega)
  rw[Ü (decide_eq_true (by omega)),Ü (decide_eq_true (by omega))]
  have e1:P++(ő (ĝ m) (u1++v1)++(u2++(v2++Q)))=(P++ő (ĝ m) (u1++v1))++(u2++(v2++Q)):=by simp
  rw[e1,show((P.length+u1.length+v1.length:Nat):Int)=((P++ő (ĝ m) (u1++v1)).length:Int) by rw[cJ,lI]; omega,
   show((P.length+u1.length+u2.length+v1.length:Nat):Int)=(((P++ő (ĝ m) (u1++v1)).length+u2.length:Nat):Int) by rw[cJ,lI]; omega,
   show((P.length+u1.length+u2.length+v1.length+v2.length:Nat):Int)=(((P++ő (ĝ m) (u1++v1)).length+u2.length+v2.length:Nat):Int) by rw[cJ,lI]; omega,this,À]
  simp
 have hR:symR rec (P.length:Int) ((P.length+u1.length:Nat):Int) ((P.length+u1.length+v1.length:Nat):Int) ((P.length+u1.length+u2.length+v1.length:Nat):Int) ((P.length+u1.length+u2.length+v1.length+v2.length:Nat):Int) some (P++(u1++(v1++(u2++(v2++Q))))) m=some (P++(ő (ĝ m) ((u1++u2)++(v1++v2))++Q),m):=by
  unfold symR
  by_cases h1:u1=[]
  ·have q:ilt (P.length:Int) ((P.length+u1.length:Nat):Int)=false:=decide_eq_false (by rw[h1]; simp)
   have e:P++(ő (ĝ m) (u1++v1)++(u2++(v2++Q)))=P++(u1++(v1++(u2++(v2++Q)))):=by
    subst h1;simp only[dL];rw[uk hV1]
   rw[e] at hS;rw[q,ë,hS]
  by_cases h2:v1=[]
  ·have e:P++(ő (ĝ m) (u1++v1)++(u2++(v2++Q)))=P++(u1++(v1++(u2++(v2++Q)))):=by
    subst h2;simp only[dh,dL];rw[uk hU1]
   rw[e] at hS;have q:ilt ((P.length+u1.length:Nat):Int) ((P.length+u1.length+v1.length:Nat):Int)=false:=decide_eq_false (by rw[h2]; simp);rw[q,ë,hS]
   cases ilt (P.length:Int) ((P.length+u1.length:Nat):Int)<;>rfl
  have k1:1≤u1.length:=dY.2 h1;have k2:1≤v1.length:=dY.2 h2;rw[Ü (decide_eq_true (by omega)),Ü (decide_eq_true (by omega))]
  rw[hrec P u1 v1 (u2++(v2++Q)) k1 k2 s1 hU1 hV1 (hW.sub fun x hx=>by
   rcases cM.1 hx with hx|hx<;>simp[hx]) (by omega),À]
  exact hS
 unfold aia;rw[en,Ð (by omega) (by omega)]
 by_cases h1:u2=[]
 ·have q:ilt ((P.length+u1.length:Nat):Int) ((P.length+u1.length+u2.length:Nat):Int)=false:=decide_eq_false (by rw[h1]; simp)
  have e:P++((u1++u2)++((v1++v2)++Q))=P++(u1++(v1++(u2++(v2++Q)))):=by rw[h1]; simp
  rw[q,ë,e,hR]
 by_cases h2:v1=[]
 ·have e:P++((u1++u2)++((v1++v2)++Q))=P++(u1++(v1++(u2++(v2++Q)))):=by rw[h2]; simp
  have q:ilt ((P.length+u1.length+u2.length:Nat):Int) ((P.length+u1.length+u2.length+v1.length:Nat):Int)=false:=decide_eq_false (by rw[h2]; simp);rw[q,ë,e,hR]
  cases ilt ((P.length+u1.length:Nat):Int) ((P.length+u1.length+u2.length:Nat):Int)<;>rfl
 have k1:1≤u2.length:=dY.2 h1;have k2:1≤v1.length:=dY.2 h2;rw[Ü (decide_eq_true (by omega)),Ü (decide_eq_true (by omega))];have:=ac1 (m:=m) (A:=P++u1) (U:=u2) (V:=v1) (C:=v2++Q) k1 k2 (by simp; omega);rw[cJ] at this
 have e1:P++((u1++u2)++((v1++v2)++Q))=(P++u1)++(u2++(v1++(v2++Q))):=by simp
 rw[e1,this,À]
 have e2:(P++u1)++(v1++(u2++(v2++Q)))=P++(u1++(v1++(u2++(v2++Q)))):=by simp
 rw[e2];exact hR
end
section
variable {ρ:Type} {m:Ū}
def giW (l:List Way) (i:Nat):Way:=(l[i]?).getD []
def HC {l:List Way} {i:Nat} (h:i<l.length) (K:Way→Option ρ):(è ((ile (0:Int) (i:Int))&&(ilt (i:Int) (ú l))) (Ŝ l (Int.toNat (i:Int)) K))=K (giW l i):=by
 rw[ÿ (by simp[ile,ilt,ú]; omega),cT,i9 (cF h)];simp[giW,cF h]
def KH {i j:Nat} (h:i+j≤10000000):IntKind.wrap .i64 (jy .u64 (IntKind.wrap .u64 ((i:Int)+(j:Int))) (1:Int))=(((i+j) / 2:Nat):Int):=by
 rw[←aiE h]; push_cast; rfl
def KOk (m:Ū) (x:Way):Prop:=Ĺ m x=some (ĝ m x)
def UW {x y:Way} (hx:KOk m x) (hy:KOk m y) (X Y:Option ρ):(Ä (kv x y m) fun r=>ifb (!(ilt r (0:Int))) X Y)=if ĝ m x≥ĝ m y then X else Y:=by
 rw[T7 hx hy,À]
 by_cases h:ĝ m x<ĝ m y
 ·rw[if_pos h,if_neg (show ¬ĝ m x≥ĝ m y by omega)]; rfl
 ·rw[if_neg h,if_pos (show ĝ m x≥ĝ m y by omega)]
  by_cases h2:ĝ m y<ĝ m x
  ·rw[if_pos h2]; rfl
  ·rw[if_neg h2]; rfl
def aii (rec:afv) {l:List Way} {a i j:Nat} (hij:i<j) (hj:j≤l.length) (ha:a<l.length) (hl:j≤2000000) (wa:KOk m (giW l a)) (wh:KOk m (giW l ((i+j) / 2))) (kn:Int→Int→Option ρ) (k0:Int→Option ρ) :
 ā rec (a:Int) l m.1.1.1 m.1.1.2 m.1.2.1 m.1.2.2.1 m.1.2.2.2.1 m.1.2.2.2.2.1 m.1.2.2.2.2.2 m.2 (i:Int) (j:Int) kn k0=if ĝ m (giW l ((i+j) / 2))<ĝ m (giW l a) then kn (((i+j) / 2+1:Nat):Int) j else kn i (((i+j) / 2:Nat):Int):=by
 unfold ā;rw[Ü (decide_eq_true (by omega)),Ð (by omega) (by omega),KH (by omega),HC (by omega),HC ha];refine(aaa wh wa _ _).trans ?_;rw[Ð (by omega) (by omega)];rfl
def aih (rec:afv) {l:List Way} {c i j:Nat} (hij:i<j) (hj:j≤l.length) (hc:c<l.length) (hl:j≤2000000) (wc:KOk m (giW l c)) (wh:KOk m (giW l ((i+j) / 2))) (kn:Int→Int→Option ρ) (k0:Int→Option ρ) :
 Ā rec (c:Int) l m.1.1.1 m.1.1.2 m.1.2.1 m.1.2.2.1 m.1.2.2.2.1 m.1.2.2.2.2.1 m.1.2.2.2.2.2 m.2 (i:Int) (j:Int) kn k0=if ĝ m (giW l c)≥ĝ m (giW l ((i+j) / 2)) then kn (((i+j) / 2+1:Nat):Int) j else kn i (((i+j) / 2:Nat):Int):=by
 unfold Ā;rw[Ü (decide_eq_true (by omega)),Ð (by omega) (by omega),KH (by omega),HC hc,HC (by omega)];refine(UW wc wh _ _).trans ?_;rw[Ð (by omega) (by omega)];rfl
def aig (rec:afv) {l:List Way} {p i j:Nat} (hij:i<j) (hj:j≤l.length) (hp:(i+j) / 2≤p) (hp2:p-(i+j) / 2<l.length) (hl:j≤2000000) (hpb:p≤4000000) (wc:KOk m (giW l (p-(i+j) / 2))) (wh:KOk m (giW l ((i+j) / 2))) (kn:Int→Int→Option ρ) (k0:Int→Option ρ) :
 á rec (p:Int) l m.1.1.1 m.1.1.2 m.1.2.1 m.1.2.2.1 m.1.2.2.2.1 m.1.2.2.2.2.1 m.1.2.2.2.2.2 m.2 (i:Int) (j:Int) kn k0=if ĝ m (giW l (p-(i+j) / 2))≥ĝ m (giW l ((i+j) / 2)) then kn (((i+j) / 2+1:Nat):Int) j else kn i (((i+j) / 2:Nat):Int):=by
 unfold á;rw[Ü (decide_eq_true (by omega)),Ð (by omega) (by omega),KH (by omega),show(p:Int)-(((i+j) / 2:Nat):Int)=((p-(i+j) / 2:Nat):Int) by omega,Ð (by omega) (by omega),HC hp2,HC (by omega)];refine(UW wc wh _ _).trans ?_;rw[Ð (by omega) (by omega)];rfl
def tg {α:Type} {l:List α} {n:Nat} {y:α} (h:y∈l.take n):∃j,j<n∧j<l.length∧l[j]?=some y:=by
 obtain⟨j,hj,e⟩:=cS.1 h;simp only[cZ] at hj;refine⟨j,by omega,by omega,?_⟩;rw[fg] at e;rw[cF (by omega),e]
def tj {α:Type} {l:List α} {n:Nat} {y:α} (h:y∈l.drop n):∃j,n≤j∧j<l.length∧l[j]?=some y:=by
 obtain⟨j,hj,e⟩:=cS.1 h;simp only[gC] at hj;refine⟨n+j,by omega,by omega,?_⟩;rw[List.getElem_drop] at e;rw[cF (by omega),e]
def acS {l:List Way} (h:Srt (ĝ m) l) {i j:Nat} {x y:Way} (hi:l[i]?=some x) (hj:l[j]?=some y) (hij:i≤j):ĝ m x≤ĝ m y:=by
 obtain⟨h1,rfl⟩:=cI.1 hi;obtain⟨h2,rfl⟩:=cI.1 hj;rcases gd hij with hlt|rfl
 ·exact dl.1 h i j h1 h2 hlt
 ·exact dP _
def I3:∀(f N:Nat),N≤2 ^ f→RecOk (ī (f+1)) m N
 |0,N,hN=>fun P U V Q hU hV hn=>by simp at hN; omega
 |f+1,N,hN=>fun P U V Q hU hV hn sU sV hW hl=>by
  have hrec:=I3 f (2 ^ f) (cG _)
  have hpow:2 ^ (f+1)=2*2 ^ f:=by rw[Nat.pow_succ]; omega
  show ĭ (ī (f+1)) _ _ _ _ m some=_;generalize ī (f+1)=rec at hrec;obtain⟨l,hle⟩:∃l,l=P++(U++(V++Q)):=⟨_,rfl⟩
  have hll:P.length+U.length+V.length≤l.length:=by rw[hle]; simp; omega
  rw[sym_eq]
  -- what lies where
  have gU:∀i x,U[i]?=some x→giW l (P.length+i)=x:=fun i x hx=>by
   have hi:=(List.getElem?_eq_some_iff.1 hx).1;unfold giW;rw[hle,List.getElem?_append_right (by omega),List.getElem?_append_left (by omega),show P.length+i-P.length=i by omega,hx];rfl
  have gV:∀i x,V[i]?=some x→giW l (P.length+U.length+i)=x:=fun i x hx=>by
   have hi:=(List.getElem?_eq_some_iff.1 hx).1;unfold giW;rw[hle,List.getElem?_append_right (by omega),List.getElem?_append_right (by omega),List.getElem?_append_left (by omega),show P.length+U.length+i-P.length-U.length=i by omega,hx];rfl
  have kU:∀c c',P.length≤c→c≤c'→c'<P.length+U.length→ĝ m (giW l c)≤ĝ m (giW l c'):=fun c c' h1 h2 h3=>by
   have q1:U[c-P.length]?=some U[c-P.length]:=cF (by omega);have q2:U[c'-P.length]?=some U[c'-P.length]:=cF (by omega);have e1:=gU _ _ q1;have e2:=gU _ _ q2;rw[show P.length+(c-P.length)=c by omega] at e1;rw[show P.length+(c'-P.length)=c' by omega] at e2;rw[e1,e2];exact acS sU q1 q2 (by omega)
  have kV:∀c c',P.length+U.length≤c→c≤c'→c'<P.length+U.length+V.length→ĝ m (giW l c)≤ĝ m (giW l c'):=fun c c' h1 h2 h3=>by
   have q1:V[c-(P.length+U.length)]?=some V[c-(P.length+U.length)]:=cF (by omega);have q2:V[c'-(P.length+U.length)]?=some V[c'-(P.length+U.length)]:=cF (by omega);have e1:=gV _ _ q1;have e2:=gV _ _ q2;rw[show P.length+U.length+(c-(P.length+U.length))=c by omega] at e1;rw[show P.length+U.length+(c'-(P.length+U.length))=c' by omega] at e2;rw[e1,e2];exact acS sV q1 q2 (by omega)
  have kW:∀c,P.length≤c→c<P.length+U.length+V.length→KOk m (giW l c):=fun c h1 h2=>by
   rcases df c (P.length+U.length) with h3|h3
   ·have q1:U[c-P.length]?=some U[c-P.length]:=cF (by omega);have e1:=gU _ _ q1;rw[show P.length+(c-P.length)=c by omega] at e1;rw[e1];exact hW _ (dB _ (eN _))
   ·have q1:V[c-(P.length+U.length)]?=some V[c-(P.length+U.length)]:=cF (by omega);have e1:=gV _ _ q1;rw[show P.length+U.length+(c-(P.length+U.length))=c by omega] at e1;rw[e1];exact hW _ (dw _ (eN _))
  have e0:((P.length+U.length:Nat):Int)-(P.length:Int)=U.length:=by omega
  have e1:((P.length+U.length+V.length:Nat):Int)-((P.length+U.length:Nat):Int)=V.length:=by omega
  rw[e0,e1,Ð (by omega) (by omega),Ð (by omega) (by omega),←hle];have half:abS ((P.length:Int)+((P.length+U.length+V.length:Nat):Int))=(((P.length+(P.length+U.length+V.length)) / 2:Nat):Int):=KH (by omega)
  by_cases hU1:U.length=1
  ·rw[Ü (beq_iff_eq.2 (by rw[hU1]; rfl))]
   obtain⟨x,hx⟩:∃x,U=[x]:=by
    cases U with
    |nil=>simp at hU1
    |cons x t=>cases t with
     |nil=>exact⟨x,rfl⟩
     |cons y t=>simp at hU1
   have gx:giW l P.length=x:=by
    have:=gU 0 x (by rw[hx]; rfl);exact this
   obtain⟨s,s1,s2,s3,s4,s5⟩:=Zb (f:=fun(v:Int×Int) kk=>ā rec (P.length:Int) l m.1.1.1 m.1.1.2 m.1.2.1 m.1.2.2.1 m.1.2.2.2.1 m.1.2.2.2.2.1 m.1.2.2.2.2.2 m.2 v.1 v.2 (fun x y=>kk (x,y)) (fun z7=>Í (fun(v:Int×List Way) kk=>ô rec z7 v.1 v.2 (fun x y=>kk (x,y)) (fun z16=>some (z16,m))) ((P.length:Int),l)))
    (K:=fun z7=>Í (fun(v:Int×List Way) kk=>ô rec z7 v.1 v.2 (fun x y=>kk (x,y)) (fun z16=>some (z16,m))) ((P.length:Int),l)) (lo:=P.length+U.length) (hi:=P.length+U.length+V.length) (by omega)
    (fun h=>ĝ m (giW l h)<ĝ m (giW l P.length)) (fun c c' q1 q2 q3 q4=>by have:=kV c c' q1 q2 q3; omega)
    (fun i j q1 q2 q3 kn=>aii rec q2 (by omega) (by omega) (by omega) (kW _ (cG _) (by omega)) (kW _ (by omega) (by omega)) _ _)
    (fun i q1 q2 kn=>by
     dsimp only;unfold ā
     rw[Ò (decide_eq_false (by omega))])
   refine s5.trans ?_
   have hk:s-(P.length+U.length)≤V.length:=by omega
   obtain⟨k,hkk⟩:∃k,k=s-(P.length+U.length):=⟨_,rfl⟩;rw[←hkk] at hk
   have lt:(V.take k).length=k:=by simp; omega
   have hB:∀y∈V.take k,ĝ m y<ĝ m x:=fun y hy=>by
    obtain⟨j,j1,j2,j3⟩:=tg hy;have:=s3 (P.length+U.length+j) (by omega) (by omega);rw[gV j y j3,gx] at this;exact this
   have hD:∀y∈V.drop k,ĝ m x≤ĝ m y:=fun y hy=>by
    obtain⟨j,j1,j2,j3⟩:=tj hy;have:=s4 (P.length+U.length+j) (by omega) (by omega);rw[gV j y j3,gx] at this;omega
   have hv:V=V.take k++V.drop k:=(dQ _ _).symm
   have fin:ő (ĝ m) (U++V)=V.take k++x::V.drop k:=by
    rw[hv] at sV;obtain⟨v1,v2,v3⟩:=sV.parts;refine yk ?_ ?_
    ·refine v1.append (List.Pairwise.cons hD v2) fun y hy z hz=>?_;rcases cN.1 hz with rfl|hz
     ·have:=hB y hy; omega
     ·exact v3 y hy z hz
    ·have:=(Stb.swap (key:=ĝ m) (u:=[x]) (v:=V.take k) (fun a ha b hb=>by simp at ha; subst ha; have:=hB b hb; omega)).append (Stb.refl (V.drop k));rw[hx]
     have e:[x]++V.take k++V.drop k=[x]++V:=by rw[cR,←hv]
     rw[e] at this;simpa using this
   have hs:(s:Int)=((P.length+(V.take k).length+1:Nat):Int):=by rw[lt]; omega
   have:=aby rec (P:=P) (B:=V.take k) (C:=V.drop k++Q) (x:=x) hs (by rw[lt]; omega) (fun z16=>some (z16,m))
   have e2:l=P++(x::(V.take k++(V.drop k++Q))):=by
    rw[hle,hx,←cR (V.take k),←hv];rfl
   rw[←e2] at this;refine this.trans ?_;rw[fin];simp
  rw[Ò (beq_eq_false_iff_ne.2 (fun h=>hU1 (by exact_mod_cast h)))]
  by_cases hV1:V.length=1
  ·rw[Ü (beq_iff_eq.2 (by rw[hV1]; rfl))]
   obtain⟨x,hx⟩:∃x,V=[x]:=by
    cases V with
    |nil=>simp at hV1
    |cons x t=>cases t with
     |nil=>exact⟨x,rfl⟩
     |cons y t=>simp at hV1
   have gx:giW l (P.length+U.length)=x:=by
    have:=gV 0 x (by rw[hx]; rfl);exact this
   obtain⟨s,s1,s2,s3,s4,s5⟩:=Zb (f:=fun(v:Int×Int) kk=>Ā rec ((P.length+U.length:Nat):Int) l m.1.1.1 m.1.1.2 m.1.2.1 m.1.2.2.1 m.1.2.2.2.1 m.1.2.2.2.2.1 m.1.2.2.2.2.2 m.2 v.1 v.2 (fun x y=>kk (x,y)) (fun z7=>Í (fun(v:Int×List Way) kk=>ó rec z7 v.1 v.2 (fun x y=>kk (x,y)) (fun z16=>some (z16,m))) (((P.length+U.length:Nat):Int),l)))
    (K:=fun z7=>Í (fun(v:Int×List Way) kk=>ó rec z7 v.1 v.2 (fun x y=>kk (x,y)) (fun z16=>some (z16,m))) (((P.length+U.length:Nat):Int),l)) (lo:=P.length) (hi:=P.length+U.length) (by omega)
    (fun h=>ĝ m (giW l (P.length+U.length))≥ĝ m (giW l h)) (fun c c' q1 q2 q3 q4=>by have:=kU c c' q1 q2 q3; omega)
    (fun i j q1 q2 q3 kn=>aih rec q2 (by omega) (by omega) (by omega) (kW _ (by omega) (by omega)) (kW _ (by omega) (by omega)) _ _)
    (fun i q1 q2 kn=>by
     dsimp only;unfold Ā
     rw[Ò (decide_eq_false (by omega))])
   refine s5.trans ?_;obtain⟨k,hkk⟩:∃k,k=s-P.length:=⟨_,rfl⟩
   have hk:k≤U.length:=by omega
   have lt:(U.take k).length=k:=by simp; omega
   have hB:∀y∈U.take k,ĝ m y≤ĝ m x:=fun y hy=>by
    obtain⟨j,j1,j2,j3⟩:=tg hy;have:=s3 (P.length+j) (by omega) (by omega);rw[gU j y j3,gx] at this;exact this
   have hD:∀y∈U.drop k,ĝ m x<ĝ m y:=fun y hy=>by
    obtain⟨j,j1,j2,j3⟩:=tj hy;have:=s4 (P.length+j) (by omega) (by omega);rw[gU j y j3,gx] at this;omega
   have hv:U=U.take k++U.drop k:=(dQ _ _).symm
   have fin:ő (ĝ m) (U++V)=U.take k++x::U.drop k:=by
    rw[hv] at sU;obtain⟨v1,v2,v3⟩:=sU.parts;refine yk ?_ ?_
    ·refine v1.append (List.Pairwise.cons (fun y hy=>by have:=hD y hy; omega) v2) fun y hy z hz=>?_;rcases cN.1 hz with rfl|hz
     ·exact hB y hy
     ·exact v3 y hy z hz
    ·have:=(Stb.refl (key:=ĝ m) (U.take k)).append (Stb.swap (key:=ĝ m) (u:=U.drop k) (v:=[x]) (fun a ha b hb=>by simp at hb; subst hb; have:=hD a ha; omega));rw[hx]
     have e:U.take k++(U.drop k++[x])=U++[x]:=by rw[←cR,←hv]
     rw[e] at this;simpa using this
   have hs:(s:Int)=((P++U.take k).length:Int):=by rw[cJ,lt]; omega
   have ld:(U.drop k).length=U.length-k:=by simp
   have:=ady rec (P:=P++U.take k) (B:=U.drop k) (C:=Q) (x:=x) hs (by rw[cJ,lt,ld]; omega) (fun z16=>some (z16,m))
   have e2:l=(P++U.take k)++(U.drop k++x::Q):=by
    rw[hle,hx,cR,←cR (U.take k),←hv];rfl
   rw[←e2,show(((P++U.take k).length+(U.drop k).length:Nat):Int)=((P.length+U.length:Nat):Int) by rw[cJ,lt,ld]; omega] at this;refine this.trans ?_;rw[fin];simp
  rw[Ò (beq_eq_false_iff_ne.2 (fun h=>hV1 (by exact_mod_cast h))),Ð (by omega) (by omega),half];obtain⟨mid,hmid⟩:∃mid,mid=(P.length+(P.length+U.length+V.length)) / 2:=⟨_,rfl⟩;rw[←hmid,Ð (by omega) (by omega)]
  have hm1:P.length≤mid:=by omega
  have hm2:mid≤P.length+U.length+V.length:=by omega
  -- the search, and what is behind it
  have gen:∀lo hi:Nat,P.length≤lo→lo≤hi→hi≤P.length+U.length→hi≤mid→mid+(P.length+U.length)≤lo+(P.length+U.length+V.length)→(hi=P.length+U.length∨hi=mid)→(lo=P.length∨lo+(P.length+U.length+V.length)=mid+(P.length+U.length)) →
   Í (fun(v:Int×Int) kk=>á rec (((mid+(P.length+U.length)-1:Nat)):Int) l m.1.1.1 m.1.1.2 m.1.2.1 m.1.2.2.1 m.1.2.2.2.1 m.1.2.2.2.2.1 m.1.2.2.2.2.2 m.2 v.1 v.2 (fun x y=>kk (x,y)) (aia rec l (P.length:Int) ((P.length+U.length:Nat):Int) ((P.length+U.length+V.length:Nat):Int) (mid:Int) ((mid:Int)+((P.length+U.length:Nat):Int)) m some)) ((lo:Int),(hi:Int))=some (P++(ő (ĝ m) (U++V)++Q),m):=by
   intro lo hi h1 h2 h3 h4 h5 h6 h7
   have hmu:mid<P.length+U.length+V.length:=by omega
   obtain⟨s,s1,s2,s3,s4,s5⟩:=Zb (f:=fun(v:Int×Int) kk=>á rec (((mid+(P.length+U.length)-1:Nat)):Int) l m.1.1.1 m.1.1.2 m.1.2.1 m.1.2.2.1 m.1.2.2.2.1 m.1.2.2.2.2.1 m.1.2.2.2.2.2 m.2 v.1 v.2 (fun x y=>kk (x,y)) (aia rec l (P.length:Int) ((P.length+U.length:Nat):Int) ((P.length+U.length+V.length:Nat):Int) (mid:Int) ((mid:Int)+((P.length+U.length:Nat):Int)) m some))
    (K:=aia rec l (P.length:Int) ((P.length+U.length:Nat):Int) ((P.length+U.length+V.length:Nat):Int) (mid:Int) ((mid:Int)+((P.length+U.length:Nat):Int)) m some) (lo:=lo) (hi:=hi) h2
    (fun h=>ĝ m (giW l (mid+(P.length+U.length)-1-h))≥ĝ m (giW l h)) (fun c c' q1 q2 q3 q4=>by
     have a1:=kU c c' (by omega) q2 (by omega);have a2:=kV (mid+(P.length+U.length)-1-c') (mid+(P.length+U.length)-1-c) (by omega) (by omega) (by omega)
     omega)
    (fun i j q1 q2 q3 kn=>aig rec q2 (by omega) (by omega) (by omega) (by omega) (by omega) (kW _ (by omega) (by omega)) (kW _ (by omega) (by omega)) _ _)
    (fun i q1 q2 kn=>by
     dsimp only;unfold á
     rw[Ò (decide_eq_false (by omega))])
   refine s5.trans ?_;obtain⟨e,he⟩:∃e,e=mid+(P.length+U.length)-s:=⟨_,rfl⟩
   have lu1:(U.take (s-P.length)).length=s-P.length:=by simp; omega
   have lu2:(U.drop (s-P.length)).length=P.length+U.length-s:=by simp; omega
   have lv1:(V.take (e-(P.length+U.length))).length=e-(P.length+U.length):=by simp; omega
   have lv2:(V.drop (e-(P.length+U.length))).length=P.length+U.length+V.length-e:=by simp; omega
   have hu:U=U.take (s-P.length)++U.drop (s-P.length):=(dQ _ _).symm;have hv:V=V.take (e-(P.length+U.length))++V.drop (e-(P.length+U.length)):=(dQ _ _).symm
   have F1:∀x∈U.drop (s-P.length),∀y∈V.take (e-(P.length+U.length)),ĝ m y<ĝ m x:=fun x hx y hy=>by
    obtain⟨i,i1,i2,i3⟩:=tj hx;obtain⟨j,j1,j2,j3⟩:=tg hy;have q:=s4 s (cG _) (by omega);rw[show mid+(P.length+U.length)-1-s=e-1 by omega] at q;have a1:=kV (P.length+U.length+j) (e-1) (by omega) (by omega) (by omega);have a2:=kU s (P.length+i) (by omega) (by omega) (by omega);rw[gV j y j3] at a1;rw[gU i x i3] at a2;omega
   have F2:∀x∈U.take (s-P.length),∀y∈V.drop (e-(P.length+U.length)),ĝ m x≤ĝ m y:=fun x hx y hy=>by
    obtain⟨i,i1,i2,i3⟩:=tg hx;obtain⟨j,j1,j2,j3⟩:=tj hy;have q:=s3 (s-1) (by omega) (by omega);rw[show mid+(P.length+U.length)-1-(s-1)=e by omega] at q;have a1:=kV e (P.length+U.length+j) (by omega) (by omega) (by omega);have a2:=kU (P.length+i) (s-1) (by omega) (by omega) (by omega);rw[gV j y j3] at a1;rw[gU i x i3] at a2;omega
   have hW':WOk m ((U.take (s-P.length)++U.drop (s-P.length))++(V.take (e-(P.length+U.length))++V.drop (e-(P.length+U.length)))):=by rw[←hu,←hv]; exact hW
   have:=afP hrec (P:=P) (u1:=U.take (s-P.length)) (u2:=U.drop (s-P.length)) (v1:=V.take (e-(P.length+U.length))) (v2:=V.drop (e-(P.length+U.length))) (Q:=Q) (by omega) (by omega) (by rw[←hu]; exact sU) (by rw[←hv]; exact sV) F1 F2 hW' (by omega)
    (a:=(P.length:Int)) (c:=((P.length+U.length:Nat):Int)) (b:=((P.length+U.length+V.length:Nat):Int)) (mid:=(mid:Int)) (n:=(mid:Int)+((P.length+U.length:Nat):Int)) (z:=(s:Int)) rfl (by omega) (by omega) (by omega) (by omega) (by omega)
   rw[←hu,←hv,←hle] at this;exact this
  by_cases hgt:mid<P.length+U.length
  ·rw[Ü (decide_eq_true (by omega)),Ð (by omega) (by omega),Ð (by omega) (by omega)];have:=gen (mid+(P.length+U.length)-(P.length+U.length+V.length)) mid (by omega) (by omega) (by omega) (cG _) (by omega) (.inr rfl) (.inr (by omega));rw[show((mid+(P.length+U.length)-1:Nat):Int)=(mid:Int)+((P.length+U.length:Nat):Int)-1 by omega,show((mid+(P.length+U.length)-(P.length+U.length+V.length):Nat):Int)=(mid:Int)+((P.length+U.length:Nat):Int)-((P.length+U.length+V.length:Nat):Int) by omega] at this;exact this
  ·rw[Ò (decide_eq_false (by omega)),Ð (by omega) (by omega)];have:=gen P.length (P.length+U.length) (cG _) (by omega) (cG _) (by omega) (by omega) (.inl rfl) (.inl rfl);rw[show((mid+(P.length+U.length)-1:Nat):Int)=(mid:Int)+((P.length+U.length:Nat):Int)-1 by omega] at this;exact this
def KV {P U V Q:List Way} (hU:1≤U.length) (hV:1≤V.length) (sU:Srt (ĝ m) U) (sV:Srt (ĝ m) V) (hW:WOk m (U++V)) (hl:P.length+U.length+V.length≤1000000) :
 Ě (P++(U++(V++Q))) P.length ((P.length+U.length:Nat):Int) ((P.length+U.length+V.length:Nat):Int) m=some (P++(ő (ĝ m) (U++V)++Q),m) :=
 I3 99 1000000 (by decide) P U V Q hU hV (by omega) sU sV hW hl
end
section
variable {ρ:Type} {m:Ū}
inductive Chs (m:Ū) (bs:Nat):List Way→Prop
 |last {l:List Way}:l.length≤bs→Srt (ĝ m) l→Chs m bs l
 |cons {u r:List Way}:u.length=bs→Srt (ĝ m) u→Chs m bs r→Chs m bs (u++r)
def Chs.split {bs:Nat} {l:List Way} (h:Chs m bs l) (hl:bs<l.length):∃u r,l=u++r∧u.length=bs∧Srt (ĝ m) u∧Chs m bs r:=by
 cases h with
 |last h1 h2=>omega
 | @cons u r h1 h2 h3=>exact⟨u,r,rfl,h1,h2,h3⟩
def Chs.srt {bs:Nat} {l:List Way} (h:Chs m bs l) (hl:l.length≤bs):Srt (ĝ m) l:=by
 cases h with
 |last h1 h2=>exact h2
 | @cons u r h1 h2 h3 =>
  have:r=[]:=by
   rw[cJ] at hl;exact cV.1 (by omega)
  rw[this,dh];exact h2
def csR (m:Ū) (bs:Nat):Nat→List Way→List Way
 |0,l=>l
 |f+1,l=>if bs≤l.length then ő (ĝ m) (l.take bs)++csR m bs f (l.drop bs) else ő (ĝ m) l
def mpR (m:Ū) (bs:Nat):Nat→List Way→List Way
 |0,l=>l
 |f+1,l=>if 2*bs≤l.length then ő (ĝ m) (l.take (2*bs))++mpR m bs f (l.drop (2*bs)) else if bs<l.length then ő (ĝ m) l else l
def ahL {bs:Nat} (hb:1≤bs):∀(f:Nat) (l:List Way),l.length<f→Chs m bs (csR m bs f l)∧Stb (ĝ m) l (csR m bs f l)
 |0,_,h=>by omega
 |f+1,l,h=>by
  unfold csR
  by_cases hl:bs≤l.length
  ·rw[if_pos hl];obtain⟨h1,h2⟩:=ahL hb f (l.drop bs) (by simp; omega);refine⟨.cons (by rw[si]; simp; omega) (lQ _) h1,?_⟩;have:=(Ť (key:=ĝ m) (l.take bs)).append h2
   rwa [dQ] at this
  ·rw[if_neg hl];exact⟨.last (by rw[si]; omega) (lQ _),Ť _⟩
def ahw {bs:Nat} (hb:1≤bs):∀(f:Nat) (l:List Way),l.length<f→Chs m bs l→Chs m (2*bs) (mpR m bs f l)∧Stb (ĝ m) l (mpR m bs f l)
 |0,_,h,_=>by omega
 |f+1,l,h,hc=>by
  unfold mpR
  by_cases hl:2*bs≤l.length
  ·rw[if_pos hl]
   have hd:Chs m bs (l.drop (2*bs)):=by
    obtain⟨u,r,rfl,h1,_,h2⟩:=hc.split (by omega)
    have hr:bs≤r.length:=by rw[cJ] at hl; omega
    have e:(u++r).drop (2*bs)=r.drop bs:=by
     rw[List.drop_append,gi (by omega),dL];congr 1; omega
    rw[e];rcases gd hr with h3|h3
    ·obtain⟨u2,r2,rfl,h4,_,h5⟩:=h2.split h3;rw[List.drop_append,gi (by omega),dL,h4,gX,gO];exact h5
    ·rw[gi (by omega)];exact .last (by simp) List.Pairwise.nil
   obtain⟨h1,h2⟩:=ahw hb f (l.drop (2*bs)) (by simp; omega) hd;refine⟨.cons (by rw[si]; simp; omega) (lQ _) h1,?_⟩;have:=(Ť (key:=ĝ m) (l.take (2*bs))).append h2
   rwa [dQ] at this
  ·rw[if_neg hl]
   by_cases h2:bs<l.length
   ·rw[if_pos h2];exact⟨.last (by rw[si]; omega) (lQ _),Ť _⟩
   ·rw[if_neg h2];exact⟨.last (by omega) (hc.srt (by omega)),Stb.refl _⟩
abbrev StT:=Int×Int×List Way×Int×Int×List (Val Ù)×List (Val Ã)×List (Val iZ)×List (Val Þ)×List (Val Ã)×List (Val Ŋ)
def stM (a b:Int) (l:List Way) (m:Ū):StT:=(a,b,l,m.1.1.1,m.1.1.2,m.1.2.1,m.1.2.2.1,m.1.2.2.2.1,m.1.2.2.2.2.1,m.1.2.2.2.2.2,m.2)
def WOk.stb {l s:List Way} (h:WOk m l) (hs:Stb (ĝ m) l s):WOk m s:=fun x hx=>h x (hs.mem.1 hx)
def aid {xs:List Way} (hW:WOk m xs) (hn:xs.length≤100000) (K:List Way×Ū→Option ρ) :
 Í (fun(v:StT) kk=>iS (xs.length:Int) (20:Int) v.1 v.2.1 v.2.2.1 v.2.2.2.1 v.2.2.2.2.1 v.2.2.2.2.2.1 v.2.2.2.2.2.2.1 v.2.2.2.2.2.2.2.1 v.2.2.2.2.2.2.2.2.1 v.2.2.2.2.2.2.2.2.2.1 v.2.2.2.2.2.2.2.2.2.2 (fun u42 u43 u44 u45 u46 u47 u48 u49 u50 u51 u52=>kk (u42,u43,u44,u45,u46,u47,u48,u49,u50,u51,u52))
  (fun z3=>Ä (í z3.2.1 z3.1 (xs.length:Int) (((z3.2.2.1,z3.2.2.2.1),z3.2.2.2.2.1,z3.2.2.2.2.2.1,z3.2.2.2.2.2.2.1,z3.2.2.2.2.2.2.2.1,z3.2.2.2.2.2.2.2.2.1),z3.2.2.2.2.2.2.2.2.2)) fun r4=>K r4)) (stM 0 20 xs m)=K (csR m 20 (xs.length+1) xs,m):=by
 refine đ (fun v:StT=>∃(A R:List Way) (f:Nat),v=stM (A.length:Int) ((A.length+20:Nat):Int) (A++R) m∧A++csR m 20 f R=csR m 20 (xs.length+1) xs∧R.length<f∧A.length+R.length=xs.length∧WOk m R) (fun v=>(xs.length+100)-v.1.toNat) ?_ ⟨[],xs,xs.length+1,rfl,rfl,by omega,by simp,hW⟩;rintro v ⟨A,R,f,rfl,hR,hf,hl,hWR⟩;obtain⟨f,rfl⟩:∃g,f=g+1:=⟨f-1,by omega⟩
 have e0:csR m 20 (f+1) R=if 20≤R.length then ő (ĝ m) (R.take 20)++csR m 20 f (R.drop 20) else ő (ĝ m) R:=rfl
 rw[e0] at hR
 by_cases h:20≤R.length
 ·have lt:(R.take 20).length=20:=by simp; omega
  have li:(ő (ĝ m) (R.take 20)).length=20:=by rw[si,lt]
  refine .inr ⟨stM (((A++ő (ĝ m) (R.take 20)).length:Nat):Int) (((A++ő (ĝ m) (R.take 20)).length+20:Nat):Int) ((A++ő (ĝ m) (R.take 20))++R.drop 20) m,⟨_,_,f,rfl,?_,by simp; omega,by rw[cJ,li]; simp; omega,hWR.sub fun x hx=>List.mem_of_mem_drop hx⟩,by simp only[stM,cJ,li]; omega,fun kn=>?_⟩
  ·rw[if_pos h] at hR;rw[cR];exact hR
  ·show ifb (ile ((A.length+20:Nat):Int) (xs.length:Int)) (Ä (í (A++R) (A.length:Int) ((A.length+20:Nat):Int) m) fun r1=>ck (((A.length+20:Nat):Int)+(20:Int)) fun n2=>kn (stM ((A.length+20:Nat):Int) n2 r1.1 r1.2)) _=_;have:=Ju (m:=m) (P:=A) (M:=R.take 20) (Q:=R.drop 20) (hWR.sub fun x hx=>fU hx) (by omega);rw[dQ,lt] at this;rw[Ü (decide_eq_true (by omega)),this,À,Ð (by omega) (by omega)];congr 1;rw[cJ,li,cR];rfl
 ·refine .inl fun kn=>?_;show ifb (ile ((A.length+20:Nat):Int) (xs.length:Int)) _ (Ä (í (A++R) (A.length:Int) (xs.length:Int) m) fun r4=>K r4)=_;have:=Ju (m:=m) (P:=A) (M:=R) (Q:=[]) hWR (by omega);rw[dh,hl] at this;rw[Ò (decide_eq_false (by omega)),this,À];rw[if_neg h] at hR;rw[←hR,dh]
def aic {xs:List Way} {bs:Nat} (hb:1≤bs) (hb2:bs≤200000) (hc:Chs m bs xs) (hW:WOk m xs) (hn:xs.length≤100000) (K:List Way×Ū→Option ρ) :
 Í (fun(v:StT) kk=>iQ (xs.length:Int) (bs:Int) v.1 v.2.1 v.2.2.1 v.2.2.2.1 v.2.2.2.2.1 v.2.2.2.2.2.1 v.2.2.2.2.2.2.1 v.2.2.2.2.2.2.2.1 v.2.2.2.2.2.2.2.2.1 v.2.2.2.2.2.2.2.2.2.1 v.2.2.2.2.2.2.2.2.2.2 (fun u16 u17 u18 u19 u20 u21 u22 u23 u24 u25 u26=>kk (u16,u17,u18,u19,u20,u21,u22,u23,u24,u25,u26))
  (fun z10=>ck (z10.1+(bs:Int)) fun n11=>ifb (ilt n11 (xs.length:Int)) (Ä (Ě z10.2.1 z10.1 n11 (xs.length:Int) (((z10.2.2.1,z10.2.2.2.1),z10.2.2.2.2.1,z10.2.2.2.2.2.1,z10.2.2.2.2.2.2.1,z10.2.2.2.2.2.2.2.1,z10.2.2.2.2.2.2.2.2.1),z10.2.2.2.2.2.2.2.2.2)) fun r12=>K r12) (K (z10.2.1,(((z10.2.2.1,z10.2.2.2.1),z10.2.2.2.2.1,z10.2.2.2.2.2.1,z10.2.2.2.2.2.2.1,z10.2.2.2.2.2.2.2.1,z10.2.2.2.2.2.2.2.2.1),z10.2.2.2.2.2.2.2.2.2))))) (stM 0 ((2*bs:Nat):Int) xs m)=K (mpR m bs (xs.length+1) xs,m):=by
 refine đ (fun v:StT=>∃(A R:List Way) (f:Nat),v=stM (A.length:Int) ((A.length+2*bs:Nat):Int) (A++R) m∧A++mpR m bs f R=mpR m bs (xs.length+1) xs∧R.length<f∧A.length+R.length=xs.length∧WOk m R∧Chs m bs R) (fun v=>(xs.length+1000000)-v.1.toNat) ?_ ⟨[],xs,xs.length+1,by simp[stM],rfl,by omega,by simp,hW,hc⟩;rintro v ⟨A,R,f,rfl,hR,hf,hl,hWR,hcR⟩;obtain⟨f,rfl⟩:∃g,f=g+1:=⟨f-1,by omega⟩
 have e0:mpR m bs (f+1) R=if 2*bs≤R.length then ő (ĝ m) (R.take (2*bs))++mpR m bs f (R.drop (2*bs)) else if bs<R.length then ő (ĝ m) R else R:=rfl
 rw[e0] at hR
 by_cases h:2*bs≤R.length
 ·obtain⟨u,r,rfl,h1,h2,h3⟩:=hcR.split (by omega)
  have hr:bs≤r.length:=by rw[cJ] at h; omega
  -- the second block
  obtain⟨u2,r2,rfl,h4,h5,h6⟩:∃u2 r2,r=u2++r2∧u2.length=bs∧Srt (ĝ m) u2∧Chs m bs r2:=by
   rcases gd hr with q|q
   ·exact h3.split q
   ·exact⟨r,[],by simp,q.symm,h3.srt (by omega),.last (by simp) List.Pairwise.nil⟩
  have e1:(u++(u2++r2)).take (2*bs)=u++u2:=by
   rw[←cR,fD (by simp; omega),dS (by simp; omega)]
  have e2:(u++(u2++r2)).drop (2*bs)=r2:=by
   rw[←cR,List.drop_append,gi (by simp; omega),dL];rw[show 2*bs-(u++u2).length=0 by simp; omega];rfl
  have li:(ő (ĝ m) (u++u2)).length=2*bs:=by rw[si]; simp; omega
  rw[if_pos h,e1,e2] at hR;refine .inr ⟨stM (((A++ő (ĝ m) (u++u2)).length:Nat):Int) (((A++ő (ĝ m) (u++u2)).length+2*bs:Nat):Int) ((A++ő (ĝ m) (u++u2))++r2) m,⟨_,_,f,rfl,by rw[cR]; exact hR,by simp at hf; omega,by rw[cJ,li]; simp at hl; omega,hWR.sub fun x hx=>by simp[hx],h6⟩,by simp only[stM,cJ,li]; omega,fun kn=>?_⟩;show ifb (ile ((A.length+2*bs:Nat):Int) (xs.length:Int)) (ck ((A.length:Int)+(bs:Int)) fun n6=>Ä (Ě (A++(u++(u2++r2))) (A.length:Int) n6 ((A.length+2*bs:Nat):Int) m) fun r7=>ck ((2:Int)*(bs:Int)) fun n8=>ck (((A.length+2*bs:Nat):Int)+n8) fun n9=>kn (stM ((A.length+2*bs:Nat):Int) n9 r7.1 r7.2)) _=_
  have:=KV (m:=m) (P:=A) (U:=u) (V:=u2) (Q:=r2) (by omega) (by omega) h2 h5 (hWR.sub fun x hx=>by rcases cM.1 hx with hx|hx<;>simp[hx]) (by omega)
  rw[h1,h4] at this;rw[List.length_append,List.length_append] at hl;rw[Ü (decide_eq_true (by omega)),Ð (by omega) (by omega),show(A.length:Int)+(bs:Int)=((A.length+bs:Nat):Int) by omega,show((A.length+2*bs:Nat):Int)=((A.length+bs+bs:Nat):Int) by omega,this,À,Ð (by omega) (by omega),Ð (by omega) (by omega)];congr 1;unfold stM;rw[List.length_append,li,List.append_assoc];refine Prod.ext (by dsimp only; omega) (Prod.ext (by dsimp only; omega) rfl)
 ·refine .inl fun kn=>?_;rw[if_neg h] at hR;show ifb (ile ((A.length+2*bs:Nat):Int) (xs.length:Int)) _ (ck ((A.length:Int)+(bs:Int)) fun n11=>ifb (ilt n11 (xs.length:Int)) (Ä (Ě (A++R) (A.length:Int) n11 (xs.length:Int) m) fun r12=>K r12) (K (A++R,m)))=_;rw[Ò (decide_eq_false (by omega)),Ð (by omega) (by omega)]
  by_cases h2:bs<R.length
  ·rw[if_pos h2] at hR;obtain⟨u,r,rfl,h1,h3,h4⟩:=hcR.split h2;have:=KV (m:=m) (P:=A) (U:=u) (V:=r) (Q:=[]) (by omega) (by rw[cJ] at h2; omega) h3 (h4.srt (by rw[cJ] at h; omega)) hWR (by rw[cJ] at hl; omega);rw[dh,dh,show A.length+u.length+r.length=xs.length by rw[cJ] at hl; omega] at this;rw[Ü (decide_eq_true (by omega)),show(A.length:Int)+(bs:Int)=((A.length+u.length:Nat):Int) by omega,this,À,hR]
  ·rw[if_neg h2] at hR;rw[Ò (decide_eq_false (by omega)),hR]
abbrev StQ:=Int×List Way×Int×Int×List (Val Ù)×List (Val Ã)×List (Val iZ)×List (Val Þ)×List (Val Ã)×List (Val Ŋ)
def stQ (b:Int) (l:List Way) (m:Ū):StQ:=(b,l,m.1.1.1,m.1.1.2,m.1.2.1,m.1.2.2.1,m.1.2.2.2.1,m.1.2.2.2.2.1,m.1.2.2.2.2.2,m.2)
def acR {xs:List Way} (hW:WOk m xs) (hn:xs.length≤100000):ń xs (xs.length:Int) m=some (ő (ĝ m) xs,m):=by
 unfold ń jV;refine(aid hW hn (fun r4=>Í (fun(v29:StQ) kk40=>iR (xs.length:Int) v29.1 v29.2.1 v29.2.2.1 v29.2.2.2.1 v29.2.2.2.2.1 v29.2.2.2.2.2.1 v29.2.2.2.2.2.2.1 v29.2.2.2.2.2.2.2.1 v29.2.2.2.2.2.2.2.2.1 v29.2.2.2.2.2.2.2.2.2 (fun u30 u31 u32 u33 u34 u35 u36 u37 u38 u39=>kk40 (u30,u31,u32,u33,u34,u35,u36,u37,u38,u39)) (fun z28=>some (z28.1,(((z28.2.1,z28.2.2.1),z28.2.2.2.1,z28.2.2.2.2.1,z28.2.2.2.2.2.1,z28.2.2.2.2.2.2.1,z28.2.2.2.2.2.2.2.1),z28.2.2.2.2.2.2.2.2)))) (stQ (20:Int) r4.1 r4.2))).trans ?_;obtain⟨c1,c2⟩:=ahL (m:=m) (bs:=20) (by omega) (xs.length+1) xs (by omega);refine đ (fun v:StQ=>∃(bs:Nat) (l:List Way),1≤bs∧bs≤200000∧v=stQ (bs:Int) l m∧Chs m bs l∧Stb (ĝ m) xs l) (fun v=>400000-v.1.toNat) ?_ ⟨20,_,by omega,by omega,rfl,c1,c2⟩;rintro v ⟨bs,l,hb,hb2,rfl,hc,hs⟩;have hl:=hs.length
 by_cases h:bs<xs.length
 ·obtain⟨d1,d2⟩:=ahw hb (l.length+1) l (by omega) hc;refine .inr ⟨stQ ((2*bs:Nat):Int) (mpR m bs (l.length+1) l) m,⟨2*bs,_,by omega,by omega,rfl,d1,hs.trans d2⟩,by simp only[stQ]; omega,fun kn=>?_⟩;have:=aic (m:=m) (xs:=l) hb hb2 hc (hW.stb hs) (by omega) (fun r=>ck ((bs:Int)*(2:Int)) fun n13=>kn (stQ n13 r.1 r.2));rw[hl] at this;show ifb (ilt (bs:Int) (xs.length:Int)) (ck ((2:Int)*(bs:Int)) fun n5=>_) _=_;rw[Ü (decide_eq_true (by omega)),Ð (by omega) (by omega),show(2:Int)*(bs:Int)=((2*bs:Nat):Int) by push_cast; rfl];rw[hl];refine eW ?_ (this.trans ?_)
  ·rfl
  ·rw[Ð (by omega) (by omega)];congr 2;omega
 ·refine .inl fun kn=>?_;show ifb (ilt (bs:Int) (xs.length:Int)) _ (some (l,m))=_;rw[Ò (decide_eq_false (by omega)),yk (hc.srt (by omega)) hs]
end
abbrev Mx:=Int×List Int
def Į:List Mx→Way→Prop
 |[],[]=>True
 |m::ms,l::ls=>l.Perm m.2∧Į ms ls
 |_,_=>False
def Į.len:∀{ms:List Mx} {w:Way},Į ms w→w.length=ms.length
 |[],[],_=>rfl
 |m::ms,l::ls,h=>by simp[h.2.len]
def Į.at:∀{ms:List Mx} {w:Way} {i:Nat} {m:Mx},Į ms w→ms[i]?=some m→∃l,w[i]?=some l∧l.Perm m.2
 |[],_,i,_,_,h=>by simp at h
 |m::ms,l::ls,0,x,h,hx=>by
  simp at hx; subst hx;exact⟨l,rfl,h.1⟩
 |m::ms,l::ls,i+1,x,h,hx=>by
  simp only[gb] at hx ⊢;exact h.2.at hx
def stp (d:Int) (m:Mx) (l:List Int) (x:Int):Int :=
 if m.1<d then match l.findIdx? (·==x) with|some k=>m.2.getD k 0|none=>x else x
def Ň:List Mx→Way→Int→Int→Int
 |m::ms,l::ls,x,d=>stp d m l (Ň ms ls x d)
 |_,_,x,_=>x
def Zr {ms:List Mx} {w:Way} {i:Nat} {m:Mx} {l:List Int} (hm:ms[i]?=some m) (hl:w[i]?=some l) (x d:Int):Ň (ms.drop i) (w.drop i) x d=stp d m l (Ň (ms.drop (i+1)) (w.drop (i+1)) x d):=by
 obtain⟨h1,rfl⟩:=cI.1 hm;obtain⟨h2,rfl⟩:=cI.1 hl;rw[dF h1,dF h2,Ň]
def who_ok {m:Ū} {w:Way} (h:Į m.2 w) (hn:m.2.length≤1000) (hl:∀x∈m.2,x.2.length≤1000) (x d:Int):vr m w x d=some (Ň m.2 w x d):=by
 unfold vr X5;rw[Ý,Ð (by omega) (by omega)];refine đ (fun s:Int×Int=>∃i:Nat,i≤m.2.length∧s.2=(i:Int)-1∧s.1=Ň (m.2.drop i) (w.drop i) x d) (fun s=>(s.2+1).toNat) ?_ ⟨m.2.length,Nat.le_refl _,rfl,?_⟩
 ·rintro⟨s1,s2⟩ ⟨i,hi,h1,h2⟩;simp only at h1 h2;subst h1 h2
  cases i with
  |zero =>
   refine .inl fun kn=>?_
   try dsimp only
   unfold Bp;rw[Ò (by simp[ige])]; rfl
  |succ i =>
   obtain⟨y,hy⟩:∃y,m.2[i]?=some y:=⟨_,cF hi⟩;obtain⟨l,hw,hp⟩:=h.at hy
   have hll:l.length≤1000:=by rw[hp.length_eq]; exact hl y (cO hy)
   have e0:((i+1:Nat):Int)-1=i:=by omega
   refine .inr ⟨(Ň (m.2.drop i) (w.drop i) x d,(i:Int)-1),⟨i,by omega,rfl,rfl⟩,by simp only[e0]; omega,fun kn=>?_⟩
   try dsimp only
   unfold Bp;rw[e0,Ü (by simp[ige]),È hw,Xd (by omega),À,Zr hy hw];unfold stp
   cases hf:l.findIdx? (·==Ň (m.2.drop (i+1)) (w.drop (i+1)) x d) with
   |none =>
    dsimp only;rw[Ò (by simp[ige]),Ð (by omega) (by omega)]
    split<;>rfl
   |some k =>
    dsimp only;rw[Ü (by simp[ige]),È hy]
    have hk:k<y.2.length:=by rw[←hp.length_eq]; exact(dg.1 hf).1
    by_cases hd:y.1<d
    ·rw[Ü (by simp[ilt,hd]),È hy,È (cF hk),Ð (by omega) (by omega),if_pos hd];rw[eh,cF hk]; rfl
    ·rw[Ò (by simp[ilt,hd]),Ð (by omega) (by omega),if_neg hd]
 ·simp only[List.drop_length];rw[←h.len,List.drop_length];unfold Ň;rfl
def Xt:List Int→List Int→Int
 |x::l,y::m=>(if y=x then 0 else 1)+Xt l m
 |_,_=>0
def KS:List Mx→Way→Int
 |m::ms,l::ls=>Xt l m.2+KS ms ls
 |_,_=>0
def T6:∀{l m:List Int} {k:Nat} {x y:Int},l[k]?=some x→m[k]?=some y→Xt (l.take (k+1)) (m.take (k+1))=Xt (l.take k) (m.take k)+if y=x then 0 else 1
 |[],_,_,_,_,h,_=>by simp at h
 |_::_,[],_,_,_,_,h=>by simp at h
 |a::l,b::m,0,x,y,h1,h2=>by
  simp at h1 h2; subst h1 h2;simp[Xt]
 |a::l,b::m,k+1,x,y,h1,h2=>by
  simp only[gb] at h1 h2;have:=T6 h1 h2;simp only[List.take_succ_cons,Xt,this]; omega
def T5:∀{ms:List Mx} {w:Way} {k:Nat} {m:Mx} {l:List Int},ms[k]?=some m→w[k]?=some l→KS (ms.take (k+1)) (w.take (k+1))=KS (ms.take k) (w.take k)+Xt l m.2
 |[],_,_,_,_,h,_=>by simp at h
 |_::_,[],_,_,_,_,h=>by simp at h
 |a::l,b::m,0,x,y,h1,h2=>by
  simp at h1 h2; subst h1 h2;simp[KS]
 |a::l,b::m,k+1,x,y,h1,h2=>by
  simp only[gb] at h1 h2;have:=T5 h1 h2;simp only[List.take_succ_cons,KS,this]; omega
def Xs:∀l m:List Int,0≤Xt l m∧Xt l m≤m.length
 |[],m=>by simp[Xt]
 |_::_,[]=>by simp[Xt]
 |a::l,b::m=>by
  have:=Xs l m;unfold Xt;simp only[List.length_cons]
  split<;>omega
def acu {n:Nat}:∀{ms:List Mx} {w:Way},(∀m∈ms,m.2.length≤n)→0≤KS ms w∧KS ms w≤(ms.length*n:Nat)
 |[],w,_=>by simp[KS]
 |m::ms,[],_=>by
  unfold KS; exact⟨Int.le_refl _,Int.natCast_nonneg _⟩
 |m::ms,l::ls,h=>by
  have h1:=Xs l m.2;have h2:=h m (by simp);have h3:=acu (w:=ls) fun x hx=>h x (List.mem_cons_of_mem _ hx);unfold KS
  have:(m::ms).length*n=ms.length*n+n:=by rw[cW,Nat.succ_mul]
  omega
def ah1 {n:Nat} {ms:List Mx} (hn:ms.length≤1000) (hl:∀x∈ms,x.2.length≤1000) (w:Way) (i:Nat):0≤KS (ms.take i) w∧KS (ms.take i) w≤1000000:=by
 have h1:=acu (n:=1000) (ms:=ms.take i) (w:=w) fun m hm=>hl m (fU hm);have h2:(ms.take i).length*1000≤1000*1000:=dm _ (by rw[cZ]; omega);omega
def acv {m:Ū} {w:Way} (h:Į m.2 w) (hn:m.2.length≤1000) (hl:∀x∈m.2,x.2.length≤1000):Ĺ m w=some (KS m.2 w):=by
 unfold Ĺ HE;have hlen:=h.len;refine đ (fun s:Int×Int=>∃i:Nat,i≤w.length∧s.2=(i:Int)∧s.1=KS (m.2.take i) (w.take i)) (fun s=>w.length-s.2.toNat) ?_ ⟨0,Nat.zero_le _,rfl,by simp[KS]⟩;rintro⟨s1,s2⟩ ⟨i,hi,h1,h2⟩;simp only at h1 h2;subst h1 h2;rcases Nat.lt_or_ge i w.length with hlt|hge
 ·obtain⟨y,hy⟩:∃y,m.2[i]?=some y:=⟨_,cF (by omega)⟩;obtain⟨l,hw,hp⟩:=h.at hy
  have hll:l.length≤1000:=by rw[hp.length_eq]; exact hl y (cO hy)
  refine .inr ⟨(KS (m.2.take (i+1)) (w.take (i+1)),(i:Int)+1),⟨i+1,hlt,by simp,rfl⟩,by simp only[cT]; omega,fun kn=>?_⟩
  try dsimp only
  unfold qw;rw[Õ hlt,È hw];have hb:=ah1 (n:=0) hn hl (w.take i) i;refine đ (fun s:Int×Int=>∃k:Nat,k≤l.length∧s.2=(k:Int)∧s.1=KS (m.2.take i) (w.take i)+Xt (l.take k) (y.2.take k)) (fun s=>l.length-s.2.toNat) ?_ ⟨0,Nat.zero_le _,rfl,by simp[Xt]⟩;rintro⟨t1,t2⟩ ⟨k,hk,h1,h2⟩;simp only at h1 h2;subst h1 h2;have hb2:=Xs (l.take k) (y.2.take k)
  have hb3:(y.2.take k).length≤1000:=by rw[cZ]; omega
  rcases df k l.length with hkl|hkg
  ·obtain⟨u,hu⟩:∃u,l[k]?=some u:=⟨_,cF hkl⟩;obtain⟨v,hv⟩:∃v,y.2[k]?=some v:=⟨_,cF (by rw[←hp.length_eq]; exact hkl)⟩;refine .inr ⟨(KS (m.2.take i) (w.take i)+Xt (l.take (k+1)) (y.2.take (k+1)),(k:Int)+1),⟨k+1,hkl,by simp,rfl⟩,by simp only[cT]; omega,fun kn=>?_⟩
   try dsimp only
   unfold qv;rw[Õ hkl,È hu,È hy,È hv,T6 hu hv]
   by_cases huv:v=u
   ·rw[Ò (by simp[ine,huv]),Ð (by omega) (by omega),if_pos huv]; simp
   ·rw[Ü (by simp[ine,huv]),Ð (by omega) (by omega),Ð (by omega) (by omega),if_neg huv,Int.add_assoc]
  ·refine .inl fun kn'=>?_
   have hk':k=l.length:=by omega
   subst hk'
   try dsimp only
   unfold qv;rw[â];dsimp only;rw[Ð (by omega) (by omega),T5 hy hw,List.take_length,hp.length_eq,List.take_length]
 ·refine .inl fun kn=>?_
  have hk':i=w.length:=by omega
  subst hk'
  try dsimp only
  unfold qw;rw[â,List.take_length,hlen,List.take_length]
def abQ (a:Int):List Int→List Int
 |[]=>[a]
 |b::t=>if a≤b then a::b::t else b::abQ a t
def lR:List Int→List Int
 |[]=>[]
 |a::t=>abQ a (lR t)
def zk (p:Option Int):List Int→List Int
 |[]=>[]
 |a::t=>if p=some a then zk (some a) t else a::zk (some a) t
def Xj (l:List Int):List Int:=zk none (lR l)
def Gv (a:Int):∀l,(abQ a l).Perm (a::l)
 |[]=>List.Perm.refl _
 |b::t=>by
  unfold abQ
  split
  ·exact List.Perm.refl _
  ·exact((Gv a t).cons b).trans (List.Perm.swap a b t)
def ľ:∀l,(lR l).Perm l
 |[]=>List.Perm.refl _
 |a::t=>(Gv a _).trans ((ľ t).cons a)
def Ed (a:Int):∀{l:List Int},l.Pairwise (·≤·)→(abQ a l).Pairwise (·≤·)
 |[],_=>by simp[abQ]
 |b::t,h=>by
  rw[List.pairwise_cons] at h;unfold abQ
  split
  ·rename_i hab;refine dA.2 ⟨fun x hx=>?_,dA.2 h⟩;rcases cN.1 hx with rfl|hx
   ·exact hab
   ·have:=h.1 x hx; omega
  ·rename_i hab;refine dA.2 ⟨fun x hx=>?_,Ed a h.2⟩;rcases cN.1 ((Gv a t).mem_iff.1 hx) with rfl|hx
   ·omega
   ·exact h.1 x hx
def ip:∀l:List Int,(lR l).Pairwise (·≤·)
 |[]=>List.Pairwise.nil
 |a::t=>Ed a (ip t)
def Q9 (l:List Int):zp l=lR l:=by
 have h1:(zp l).Pairwise (·≤·):=by
  have:=List.pairwise_mergeSort (le:=fun a b:Int=>decide (a≤b)) (fun a b c h1 h2=>by simp at *; omega) (fun a b=>by simp; omega) l
  exact this.imp fun h=>by simpa using h
 exact gN (le:=(·≤·)) (fun a b _ _ h1 h2=>by omega) h1 (ip l) ((List.mergeSort_perm l _).trans (ľ l).symm)
def PM (a:Int):∀(l:List Int) (p:Option Int),zk p (l++[a])=zk p l++(if (match l.getLast? with|some b=>some b|none=>p)=some a then[] else[a])
 |[],p=>by simp only[dL,zk,List.getLast?_nil]; rfl
 |b::t,p=>by
  have ih:=PM a t (some b)
  have e:(match (b::t).getLast? with|some c=>some c|none=>p)=(match t.getLast? with|some c=>some c|none=>some b):=by
   cases t with
   |nil=>rfl
   |cons c t =>
    rw[List.getLast?_cons_cons]
    cases h:(c::t).getLast? with
    |none=>simp at h
    |some x=>rfl
  rw[e];simp only[eZ,zk,ih]
  split<;>simp
def De (l:List Int):∀m,m≤l.length→Lib.compactUpTo l.toArray m=zk none (l.take m)
 |0,_=>by simp[Lib.compactUpTo,zk]
 |m+1,h=>by
  have hm:m<l.length:=h;rw[Lib.compactUpTo_succ,De l m (by omega),take_succ (cF hm),PM];congr 1
  have e1:l.toArray[m]! = l[m]:=by simp[getElem!_pos,hm]
  rw[e1];unfold Lib.keeps;rw[e1]
  cases m with
  |zero=>simp
  |succ m =>
   have hm':m<l.length:=by omega
   have e2:l.toArray[m+1-1]! = l[m]:=by simp[getElem!_pos,hm']
   rw[e2]
   have e3:(l.take (m+1)).getLast?=some l[m]:=by rw[take_succ (cF hm'),List.getLast?_append]; rfl
   rw[e3]
   by_cases hne:l[m+1]=l[m]
   ·simp[hne]
   ·have:¬l[m]=l[m+1]:=fun h=>hne h.symm;simp[hne,this]
def Y3 (l:List Int):BQ l=zk none l:=by
 unfold BQ Lib.compact;rw[De l l.length (Nat.le_refl _),List.take_length]
def acW (l:List Int):BQ (zp l)=Xj l:=by rw[Q9,Y3]; rfl
def Ud:∀{l:List Int} {p:Option Int} {x:Int},p≠some x→(x∈zk p l↔x∈l)
 |[],_,_,_=>Iff.rfl
 |a::t,p,x,hp=>by
  unfold zk
  by_cases hx:x=a
  ·subst hx;rw[if_neg hp]; simp
  ·have ih:=Ud (l:=t) (p:=some a) (x:=x) (fun e=>hx (by cases e; rfl))
   split<;>simp[ih,hx]
def Zv:∀{l:List Int} {p:Option Int},l.Pairwise (·≤·)→(∀q,p=some q→∀x∈l,q≤x)→(zk p l).Pairwise (·<·)∧∀q,p=some q→∀x∈zk p l,q<x
 |[],p,_,_=>⟨List.Pairwise.nil,fun _ _ _ h=>by cases h⟩
 |a::t,p,h,hp=>by
  rw[List.pairwise_cons] at h;obtain⟨i1,i2⟩:=Zv (l:=t) (p:=some a) h.2 (fun q hq x hx=>by cases hq; exact h.1 x hx);unfold zk
  split
  ·rename_i e;exact⟨i1,fun q hq x hx=>by rw[e] at hq; cases hq; exact i2 _ rfl x hx⟩
  ·rename_i e;refine⟨dA.2 ⟨fun x hx=>i2 _ rfl x hx,i1⟩,fun q hq x hx=>?_⟩;have:=hp q hq a (by simp);have hne:q≠a:=fun h=>e (by rw[hq,h]);rcases cN.1 hx with rfl|hx
   ·omega
   ·have:=i2 _ rfl x hx; omega
def Bo {l:List Int} {x:Int}:x∈Xj l↔x∈l:=by
 unfold Xj;rw[Ud (by simp),(ľ l).mem_iff]
def XG (l:List Int):(Xj l).Pairwise (·<·):=(Zv (ip l) (fun q hq=>by cases hq)).1
def Ue:∀(l:List Int) (p:Option Int),(zk p l).length≤l.length
 |[],_=>cG _
 |a::t,p=>by
  have:=Ue t (some a);unfold zk
  split<;>simp<;>omega
def Kr (l:List Int):(Xj l).length≤l.length:=by
 unfold Xj;have:=Ue (lR l) none
 rwa [(ľ l).length_eq] at this
def ai8 {l m:List Int} (hl:l.Pairwise (·<·)) (hm:m.Pairwise (·<·)) (h:∀x,x∈l↔x∈m):l=m:=by
 induction l generalizing m with
 |nil =>
  cases m with
  |nil=>rfl
  |cons a t=>have:=(h a).2 (by simp); cases this
 |cons a t ih =>
  rw[dA] at hl
  cases m with
  |nil=>have:=(h a).1 (by simp); cases this
  |cons b u =>
   rw[dA] at hm
   have hab:a=b:=by
    rcases cN.1 ((h a).1 (by simp)) with h1|h1
    ·exact h1
    ·rcases cN.1 ((h b).2 (by simp)) with h2|h2
     ·exact h2.symm
     ·have:=hm.1 a h1; have:=hl.1 b h2; omega
   subst hab;rw[ih hl.2 hm.2 fun x=>?_];constructor
   ·intro hx;rcases cN.1 ((h x).1 (by simp[hx])) with h1|h1
    ·have:=hl.1 x hx; omega
    ·exact h1
   ·intro hx;rcases cN.1 ((h x).2 (by simp[hx])) with h1|h1
    ·have:=hm.1 x hx; omega
    ·exact h1
def zw (b:ò) (s:List (Int×ï)) (c:Cmp):Int :=
 if (c.2.2.1++c.2.2.2.1).any (fun id=>ow s id c.2.1==5) then 5 else
 if (c.2.2.1++c.2.2.2.1).any (fun id=>ow s id c.2.1==4) then 4 else
 if (c.2.2.1++c.2.2.2.1).any (fun id=>(nY b id c.2.1).isSome) then 9 else
 if 1<(ù c.2.2.1 c.2.2.2.1).length then 1 else if 1<(ù c.2.2.2.1 c.2.2.1).length then 1 else
 if (ù c.2.2.1 c.2.2.2.1).length+(ù c.2.2.2.1 c.2.2.1).length=0 then 1 else 0
def UU (c:Cmp):Bool :=
 inP c.1 1 1099511627776&&(GW c.2.1&&(inP c.2.2.2.2.1 (-1125899906842624) 1125899906842624&&(inP c.2.2.2.2.2.1 0 1073741824&&(km c.2.2.2.2.2.2 (-10000) 10000&&(qr c.2.2.1&&qr c.2.2.2.1)))))
def jk (b:ò) (s:List (Int×ï)) (i:Nat) (c:Cmp):Int :=
 if !UU c then 1 else if (b.2.2.2.2.1.take i).any (fun x=>x.1==c.1) then 6 else zw b s c
def Gs (a b:List Int):(ù a b).length≤a.length:=dV _ _
set_option maxHeartbeats 1000000 in
def A8 {b:ò} (hn:b.2.2.2.2.1.length≤1000) (hl:b.2.2.2.1.length≤1000) (s:List (Int×ï)) {i:Nat} {c:Cmp} (hA:c.2.2.1.length≤1000) (hB:c.2.2.2.1.length≤1000)
 (hc:b.2.2.2.2.1[i]?=some c):Ĝ b s i=some (jk b s i c):=by
 have hi:i<b.2.2.2.2.1.length:=(List.getElem?_eq_some_iff.1 hc).1;unfold Ĝ jr jk UU;rw[È hc,ĺ,À]
 cases inP c.1 1 1099511627776 with
 |false=>rfl
 |true =>
 rw[BG,À]
 cases GW c.2.1 with
 |false=>rfl
 |true =>
 rw[ĺ,À]
 cases inP c.2.2.2.2.1 (-1125899906842624) 1125899906842624 with
 |false=>rfl
 |true =>
 rw[ĺ,À]
 cases inP c.2.2.2.2.2.1 0 1073741824 with
 |false=>rfl
 |true =>
 rw[sj,À]
 cases km c.2.2.2.2.2.2 (-10000) 10000 with
 |false=>rfl
 |true =>
 rw[AM (by omega),À]
 cases qr c.2.2.1 with
 |false=>rfl
 |true =>
 rw[AM (by omega),À]
 cases qr c.2.2.2.1 with
 |false=>rfl
 |true =>
 have hg:((ile (0:Int) (i:Int))&&(ile (i:Int) (ú b.2.2.2.2.1)))=true:=by simp[ile,ú]; omega
 simp only[dD,ë,Bool.and_self,cX,if_false];rw[ÿ hg,cT]
 -- what comes behind the IDs
 have rest:(Ä (ĸ ([c.2.2.1,c.2.2.2.1])) fun r12=>Í (fun(v36:Int) kk38=>Ŧ s r12 (à ([(5:Int),(4:Int)])) c.2.1 ([(5:Int),(4:Int)]) v36 (fun u37=>kk38 u37) (fun z23=>some z23) (fun _=>Í (fun(v33:Int) kk35=>ť r12 (à r12) b.1.1 b.1.2 b.2.1 b.2.2.1 b.2.2.2.1 b.2.2.2.2.1 b.2.2.2.2.2 c.2.1 v33 (fun u34=>kk35 u34) (fun z28=>some z28) (fun _=>Ä (iq c.2.2.1 c.2.2.2.1) fun r30=>Ä (iq c.2.2.2.1 c.2.2.1) fun r31=>ifb (igt (à r30) (1:Int)) (some (1:Int)) (ifb (igt (à r31) (1:Int)) (some (1:Int)) (ck ((à r30)+(à r31)) fun n32=>ifb (ieq n32 (0:Int)) (some (1:Int)) (some (0:Int)))))) (0:Int))) (0:Int))=some (zw b s c):=by
  rw[Og (by omega) (by omega),À]
  have hall:(c.2.2.1++c.2.2.2.1).length≤2000:=by simp; omega
  have last:(Ä (iq c.2.2.1 c.2.2.2.1) fun r30=>Ä (iq c.2.2.2.1 c.2.2.1) fun r31=>ifb (igt (à r30) (1:Int)) (some (1:Int)) (ifb (igt (à r31) (1:Int)) (some (1:Int)) (ck ((à r30)+(à r31)) fun n32=>ifb (ieq n32 (0:Int)) (some (1:Int)) (some (0:Int))))) =
   some (if 1<(ù c.2.2.1 c.2.2.2.1).length then 1 else if 1<(ù c.2.2.2.1 c.2.2.1).length then 1 else if (ù c.2.2.1 c.2.2.2.1).length+(ù c.2.2.2.1 c.2.2.1).length=0 then 1 else 0):=by
   rw[AK (by omega) (by omega),À,AK (by omega) (by omega),À];have l1:=Gs c.2.2.1 c.2.2.2.1;have l2:=Gs c.2.2.2.1 c.2.2.1;rw[Ý,Ý,Ð (by omega) (by omega)]
   by_cases c1:1<(ù c.2.2.1 c.2.2.2.1).length
   ·rw[Ü (by simp[igt]; omega),if_pos c1]
   rw[Ò (by simp[igt]; omega),if_neg c1]
   by_cases c2:1<(ù c.2.2.2.1 c.2.2.1).length
   ·rw[Ü (by simp[igt]; omega),if_pos c2]
   rw[Ò (by simp[igt]; omega),if_neg c2]
   by_cases c3:(ù c.2.2.1 c.2.2.2.1).length+(ù c.2.2.2.1 c.2.2.1).length=0
   ·rw[Ü (by simp[ieq]; omega),if_pos c3]
   rw[Ò (by simp[ieq]; omega),if_neg c3]
  refine eW (wD [(5:Int),4] (fun _ want=>if (c.2.2.1++c.2.2.2.1).any (fun id=>ow s id c.2.1==want) then some want else none) some (some (if (c.2.2.1++c.2.2.2.1).any (fun id=>(nY b id c.2.1).isSome) then 9 else if 1<(ù c.2.2.1 c.2.2.2.1).length then 1 else if 1<(ù c.2.2.2.1 c.2.2.1).length then 1 else if (ù c.2.2.1 c.2.2.2.1).length+(ù c.2.2.2.1 c.2.2.1).length=0 then 1 else 0)) (fun j want hj hw kn=>?_) (fun kn=>?_)) ?_
  ·try dsimp only
   unfold Ŧ;rw[Õ hj,Ε hj,ġ hw];refine Eq.trans (ks (c.2.2.1++c.2.2.2.1) (fun id=>ow s id c.2.1==want) (fun _=>some want) (some want) (kn ((j:Int)+1)) (fun _=>rfl) (fun k a hk ha kn'=>?_) (fun kn'=>?_)) ?_
   ·try dsimp only
    unfold jh;rw[Õ hk,È ha,X0,À,Î hk (by omega),Ķ]
   ·try dsimp only
    unfold jh;rw[â,Î hj (by simp)]
   ·cases List.any (c.2.2.1++c.2.2.2.1) (fun id=>ow s id c.2.1==want)<;>rfl
  ·try dsimp only
   unfold Ŧ;rw[â];refine Eq.trans (ks (c.2.2.1++c.2.2.2.1) (fun id=>(nY b id c.2.1).isSome) (fun _=>some 9) (some 9) (some (if 1<(ù c.2.2.1 c.2.2.2.1).length then 1 else if 1<(ù c.2.2.2.1 c.2.2.1).length then 1 else if (ù c.2.2.1 c.2.2.2.1).length+(ù c.2.2.2.1 c.2.2.1).length=0 then 1 else 0)) (fun _=>rfl) (fun k a hk ha kn'=>?_) (fun kn'=>?_)) ?_
   ·try dsimp only
    unfold ť;have haw:=afo hl a c.2.1;rw[Õ hk,È ha,Î hk (by omega)];rw[show yn ((b.1.1,b.1.2),b.2.1,b.2.2.1,b.2.2.2.1,b.2.2.2.2.1,b.2.2.2.2.2) a c.2.1=yn b a c.2.1 from rfl,haw,À]
    cases nY b a c.2.1<;>rfl
   ·try dsimp only
    unfold ť;rw[â,last]
   ·cases List.any (c.2.2.1++c.2.2.2.1) (fun id=>(nY b id c.2.1).isSome)<;>rfl
  ·unfold zw Ŭ Ŭ Ŭ
   try dsimp only
   cases List.any (c.2.2.1++c.2.2.2.1) (fun id=>ow s id c.2.1==5) with
   |true=>rfl
   |false =>
   cases List.any (c.2.2.1++c.2.2.2.1) (fun id=>ow s id c.2.1==4)<;>rfl
 refine eW (ks (b.2.2.2.2.1.take i) (fun x=>x.1==c.1) (fun z11=>ifb (ige z11 (0:Int)) (some 6) (some (zw b s c))) (some 6) (some (zw b s c)) (fun j=>?_) (fun j a hj ha kn=>?_) (fun kn=>?_)) ?_
 ·have:ige (j:Int) 0=true:=by simp[ige]
  rw[Ü this]
 ·try dsimp only
  unfold ji;rw[rest,Õ hj,È ha,Î hj (by rw[List.length_take]; omega),Ķ]
 ·try dsimp only
  unfold ji;rw[â,rest]
 ·cases List.any (b.2.2.2.2.1.take i) (fun x=>x.1==c.1)<;>rfl
def TH (b:ò) (g:ï):List Int :=
 [g.2.1]++(b.2.2.2.2.1.filter fun c=>!(c.2.2.1.contains g.1==c.2.2.2.1.contains g.1)).map (fun c=>c.2.1)++(b.2.2.2.2.2.filter fun n=>n.1==g.1).map (fun n=>n.2)
def é (b:ò) (g:ï):List Int:=Xj (TH b g)
structure yN (b:ò):Prop where
 gauges:b.2.1.length≤1000
 uses:b.2.2.1.length≤1000
 loans:b.2.2.2.1.length≤1000
 compares:b.2.2.2.2.1.length≤1000
 looks:b.2.2.2.2.2.length≤1000
 piles:∀c∈b.2.2.2.2.1,c.2.2.1.length≤1000∧c.2.2.2.1.length≤1000
def Up (l:List Int):(zp l).length=l.length:=List.length_mergeSort l
def Wz {b:ò} (hs:yN b) (g:ï):(TH b g).length≤2001:=by
 have h1:=hs.compares;have h2:=hs.looks;have h3:=dV (fun c:Cmp=>!(c.2.2.1.contains g.1==c.2.2.2.1.contains g.1)) b.2.2.2.2.1;have h4:=dV (fun n:Int×Int=>n.1==g.1) b.2.2.2.2.2;simp only[TH,cJ,dz,dI];omega
def aeF {b:ò} (hs:yN b) (g:ï):qH b g=some (é b g):=by
 unfold qH S0;have hr:=Wz hs g
 have hd:(é b g).length≤2001:=by
  unfold é;have:=Kr (TH b g);omega
 have hcl:=hs.compares;have hll:=hs.looks;refine ĵ b.2.2.2.2.1 (fun i=>[g.2.1]++((b.2.2.2.2.1.take i).filter fun c=>!(c.2.2.1.contains g.1==c.2.2.2.1.contains g.1)).map (fun c=>c.2.1)) _ rfl (fun i c hi hc kn=>?_) (fun kn=>?_)
 ·try dsimp only
  unfold yd;obtain⟨p1,p2⟩:=hs.piles c (List.mem_of_getElem? hc);rw[Õ hi,È hc,ů (by omega),À,ů (by omega),À,Î hi (by omega),Î hi (by omega),take_succ hc,List.filter_append,List.map_append]
  have hlen:([g.2.1]++((b.2.2.2.2.1.take i).filter fun c=>!(c.2.2.1.contains g.1==c.2.2.2.1.contains g.1)).map (fun c=>c.2.1)).length≤1001:=by
   have h3:=dV (fun c:Cmp=>!(c.2.2.1.contains g.1==c.2.2.2.1.contains g.1)) (b.2.2.2.2.1.take i);rw[cZ] at h3;simp only[cJ,dz,dI];omega
  rw[Ú (by simp only[dI]; omega),Am.iff_true]
  cases h:(c.2.2.1.contains g.1==c.2.2.2.1.contains g.1) with
  |true=>simp only[dD,ë,eA,h,cX,if_false,fA,fk,dh]
  |false=>simp only[eQ,md,eA,h,if_true,fA,ej,fk,cR]
 ·try dsimp only
  unfold yd;rw[â,List.take_length];refine ĵ b.2.2.2.2.2 (fun i=>[g.2.1]++(b.2.2.2.2.1.filter fun c=>!(c.2.2.1.contains g.1==c.2.2.2.1.contains g.1)).map (fun c=>c.2.1)++((b.2.2.2.2.2.take i).filter fun n=>n.1==g.1).map (fun n=>n.2)) _ (by simp) (fun i n hi hn kn=>?_) (fun kn=>?_)
  ·try dsimp only
   unfold yc;rw[Õ hi,È hn,Î hi (by omega),Î hi (by omega),take_succ hn,List.filter_append,List.map_append]
   have hlen:([g.2.1]++(b.2.2.2.2.1.filter fun c=>!(c.2.2.1.contains g.1==c.2.2.2.1.contains g.1)).map (fun c=>c.2.1)++((b.2.2.2.2.2.take i).filter fun n=>n.1==g.1).map (fun n=>n.2)).length≤2001:=by
    have h3:=dV (fun c:Cmp=>!(c.2.2.1.contains g.1==c.2.2.2.1.contains g.1)) b.2.2.2.2.1;have h4:=dV (fun n:Int×Int=>n.1==g.1) (b.2.2.2.2.2.take i);rw[cZ] at h4;simp only[cJ,dz,dI];omega
   rw[Ú (by simp only[dI]; omega),Am.iff_true]
   cases h:(n.1==g.1) with
   |true =>
    have:ieq n.1 g.1=true:=h;simp[h,this]
   |false =>
    have:ieq n.1 g.1=false:=h;simp[h,this]
  ·try dsimp only
   unfold yc;rw[â,List.take_length];rw[show([g.2.1]++(b.2.2.2.2.1.filter fun c=>!(c.2.2.1.contains g.1==c.2.2.2.1.contains g.1)).map (fun c=>c.2.1)++(b.2.2.2.2.2.filter fun n=>n.1==g.1).map (fun n=>n.2))=TH b g from rfl];dsimp only;rw[Ú (by omega),Am.iff_true,Ú (by rw[Up]; omega),Am.iff_true,acW];rfl
def Ñ (b:ò):List (Int×Int):=b.2.1.flatMap fun g=>(é b g).map fun d=>((g.1,d):Int×Int)
def NM {b:ò} (hs:yN b) (g:ï):(é b g).length≤2001:=by
 unfold é;have:=Kr (TH b g);have:=Wz hs g;omega
def Eh {α β:Type} (f:α→List β) (n:Nat) (h:∀a,(f a).length≤n):∀l:List α,(l.flatMap f).length≤l.length*n
 |[]=>by simp
 |a::l=>by
  have:=Eh f n h l;have:=h a;simp only[dG,cJ,cW,dk,fm];omega
def Rv {b:ò} (hs:yN b):sq b=some (Ñ b):=by
 unfold sq MX;have hg:=hs.gauges
 have hlen:∀l:List ï,(l.flatMap fun g=>(é b g).map fun d=>((g.1,d):Int×Int)).length≤l.length*2001:=fun l =>
  Eh _ 2001 (fun g=>by rw[dz]; exact NM hs g) l
 refine ĵ b.2.1 (fun i=>(b.2.1.take i).flatMap fun g=>(é b g).map fun d=>((g.1,d):Int×Int)) _ rfl (fun i g hi hg' kn=>?_) (fun kn=>?_)
 ·try dsimp only
  unfold tZ;rw[Õ hi,È hg'];rw[show qH ((b.1.1,b.1.2),b.2.1,b.2.2.1,b.2.2.2.1,b.2.2.2.2.1,b.2.2.2.2.2) g=qH b g from rfl,aeF hs,À];have hd:=NM hs g;have hi2:=hlen (b.2.1.take i)
  have htl:(b.2.1.take i).length≤1000:=by rw[cZ]; omega
  refine ĵ (é b g) (fun j=>((b.2.1.take i).flatMap fun g=>(é b g).map fun d=>((g.1,d):Int×Int))++((é b g).take j).map fun d=>((g.1,d):Int×Int)) _ (by simp) (fun j d hj hd' kn'=>?_) (fun kn'=>?_)
  ·try dsimp only
   unfold tY;rw[Õ hj,È hd',Î hj (by omega),take_succ hd',List.map_append];rw[Ú (by simp only[List.length_append,List.length_map,List.length_take,List.length_singleton]; omega),Am.iff_true];simp
  ·try dsimp only
   unfold tY;rw[â,List.take_length];dsimp only;rw[Î hi (by omega),take_succ hg',List.flatMap_append];simp
 ·try dsimp only
  unfold tZ;rw[â,List.take_length];rfl
def mX (b:ò) (s:List (Int×ï)):List Int :=
 b.2.2.1.map (fun u=>Hg s u.1 u.2)++(b.2.2.2.1.mapIdx (fun i l=>Tg b s i l)++(b.2.2.2.2.1.mapIdx (fun i c=>jk b s i c)++b.2.2.2.2.2.map (fun u=>Hg s u.1 u.2)))
def E4 {α:Type} {f:Int→Option Int} {g:Nat→α→Int} (l:List α) (h:∀(i:Nat) (a:α),l[i]?=some a→f i=some (g i a)):LC f (zj l.length)=some (l.mapIdx g):=by
 have h1:∀i,i<l.length→f (i:Int)=some ((l.mapIdx g)[i]?.getD 0):=by
  intro i hi;rw[h i l[i] (cF hi)];simp[hi]
 have h2:∀x∈zj l.length,f x=some ((l.mapIdx g)[x.toNat]?.getD 0):=by
  intro x hx;unfold zj at hx;obtain⟨i,hi,rfl⟩:=List.mem_map.1 hx;rw[h1 i (by simpa using hi)];rfl
 rw[vH h2];congr 1;refine List.ext_getElem (by simp[zj]) fun i h3 h4=>?_
 have h5:i<l.length:=by simpa using h4
 simp[zj,h5]
def af5 {b:ò} (hs:yN b) (s:List (Int×ï)):lP b s=some (mX b s):=by
 unfold lP mX
 rw[vH (fun u _=>EL s u.1 u.2),À,E4 b.2.2.2.1 (fun i l hl=>JC hs.loans hs.uses s hl),À,
  E4 b.2.2.2.2.1 (fun i c hc=>A8 hs.compares hs.loans s (hs.piles c (cO hc)).1 (hs.piles c (cO hc)).2 hc),À,vH (fun u _=>EL s u.1 u.2),À]
def ě (b:ò):Int :=
 if !km b.1 0 1000000 then 1 else
 if 12<b.2.1.length then 2 else if 40<b.2.2.1.length then 2 else if 12<b.2.2.2.1.length then 2 else if 40<b.2.2.2.2.1.length then 2 else if 10<b.2.2.2.2.2.length then 2 else
 if nE b != 0 then nE b else
 match (mX b (ĕ b)).find? (fun e=>e != 0) with
 |some e=>e
 |none=>if 59<(Ñ b).length then 2 else if 300<2*b.2.1.length+2*((Ñ b).length-b.2.1.length:Int)+2*b.2.2.2.2.1.length then 2 else 0
def P5 {b:ò} (hs:yN b):(Ñ b).length≤2001000:=by
 have:=Eh (fun g:ï=>(é b g).map fun d=>((g.1,d):Int×Int)) 2001 (fun g=>by rw[List.length_map]; exact NM hs g) b.2.1;have h2:=hs.gauges;unfold Ñ;omega
def qO {b:ò} (hs:yN b) (hr:∀g∈b.2.1,I64 g.2.2.2.2.1.1):Ř b=some (ě b):=by
 unfold Ř Gp ě;rw[sj,À]
 cases km b.1 0 1000000 with
 |false=>rfl
 |true =>
 have h1:=hs.gauges;have h2:=hs.compares;have h3:=P5 hs;rw[Ò (show(!true)=false from rfl),if_neg (by simp)];simp only[Ý]
 by_cases c0:12<b.2.1.length
 ·rw[Ü (by simp[igt]; omega),if_pos c0]
 rw[Ò (by simp[igt]; omega),if_neg c0]
 by_cases c1:40<b.2.2.1.length
 ·rw[Ü (by simp[igt]; omega),if_pos c1]
 rw[Ò (by simp[igt]; omega),if_neg c1]
 by_cases c2:12<b.2.2.2.1.length
 ·rw[Ü (by simp[igt]; omega),if_pos c2]
 rw[Ò (by simp[igt]; omega),if_neg c2]
 by_cases c3:40<b.2.2.2.2.1.length
 ·rw[Ü (by simp[igt]; omega),if_pos c3]
 rw[Ò (by simp[igt]; omega),if_neg c3]
 by_cases c4:10<b.2.2.2.2.2.length
 ·rw[Ü (by simp[igt]; omega),if_pos c4]
 rw[Ò (by simp[igt]; omega),if_neg c4];rw[Dg hr h1,À]
 cases hm:(nE b != 0) with
 |true =>
  have:ine (nE b) 0=true:=hm;rw[Ü this,if_pos rfl]
 |false =>
 have:ine (nE b) 0=false:=hm;rw[Ò this,if_neg (by simp)];rw[vx h1,À];unfold PW;rw[af5 hs,À]
 cases(mX b (ĕ b)).find? (fun e=>e != 0) with
 |some e=>rfl
 |none =>
 dsimp only;rw[Rv hs,À]
 by_cases c5:59<(Ñ b).length
 ·rw[Ü (by simp[igt]; omega),if_pos c5]
 rw[Ò (by simp[igt]; omega),if_neg c5];rw[Ð (by omega) (by omega),Ð (by omega) (by omega),Ð (by omega) (by omega),Ð (by omega) (by omega),Ð (by omega) (by omega),Ð (by omega) (by omega)]
 by_cases c6:300<2*b.2.1.length+2*((Ñ b).length-b.2.1.length:Int)+2*b.2.2.2.2.1.length
 ·rw[Ü (by simp[igt]; omega),if_pos c6]
 rw[Ò (by simp[igt]; omega),if_neg c6]
def wrapU {n:Nat} (h:n<18446744073709551616):IntKind.wrap .u64 (n:Int)=n:=by
 simp only[IntKind.wrap,IntKind.bits,IntKind.signed];simp;omega
def wrapI {n:Nat} (h:n<9223372036854775808):IntKind.wrap .i64 (n:Int)=n:=by
 simp only[IntKind.wrap,IntKind.bits,IntKind.signed];simp;omega
def la (l:List (Int×Int)) (x d:Int):Option Nat:=l.findIdx? fun n=>decide (x=n.1)&&decide (d=n.2)
def Xc {l:List (Int×Int)} (hn:l.length≤100000000) (x d:Int):û l (x,d)=some (match la l x d with|some j=>(j:Int)|none=>-1):=by
 unfold û Ο;refine Eq.trans (j7 l (fun n=>decide (x=n.1)&&decide (d=n.2)) some (some (-1)) (fun i a hi ha kn=>?_) (fun kn=>?_)) ?_
 ·try dsimp only
  unfold Ĵ;rw[Õ hi,È ha,Î hi (by omega),Ķ,Bool.and_true]
 ·try dsimp only
  unfold Ĵ;rw[â]
 ·unfold la
  cases List.findIdx? (fun n=>decide (x=n.1)&&decide (d=n.2)) l<;>rfl
def atP (l:List (Int×Int)) (p:List Int) (d:Int):Int :=
 match p with
 |[]=>0
 |x::_=>match la l x d with|some j=>(j:Int)+1|none=>0
def mC {l:List (Int×Int)} {x d:Int} {j:Nat} (h:la l x d=some j):j<l.length∧l[j]?=some (x,d):=by
 unfold la at h;obtain⟨hj,hp,_⟩:=List.findIdx?_eq_some_iff_getElem.1 h;refine⟨hj,?_⟩;rw[List.getElem?_eq_getElem hj];simp only[Bool.and_eq_true,decide_eq_true_eq] at hp;congr 1;exact Prod.ext hp.1.symm hp.2.symm
def ai7 (m:Maker) (p:List Int) (d:Int) (hn:m.2.1.length≤100000000):mS m p d=some (atP m.2.1 p d):=by
 unfold mS AC atP
 cases p with
 |nil=>simp[Ý,ieq]
 |cons x p =>
  have h:ieq (à (x::p)) 0=false:=by
   rw[Ý];simp only[ieq,cW,beq_eq_false_iff_ne,ne_eq];omega
  rw[h,ë,show(0:Int)=((0:Nat):Int) from rfl,È (a:=x) rfl,Xc hn,À]
  cases hx:la m.2.1 x d with
  |none=>dsimp only; rw[Ð (by omega) (by omega)]; simp only[hx]; rfl
  |some j =>
   have:=(mC hx).1;dsimp only;rw[Ð (by omega) (by omega)];simp only[hx]
def uE (s:List (Int×ï)) (p:List Int):Int×Int :=
 match p with
 |[]=>(0,1)
 |x::_=>match nS (k:=tI) (v:=Ù) x s with
  |some g=>g.2.2.2.2.1
  |none=>(0,0)
def UA (s:List (Int×ï)) (p:List Int):jt s p=some (uE s p):=by
 unfold jt qe uE
 cases p with
 |nil=>simp[Ý,ieq]
 |cons x p =>
  have h:ieq (à (x::p)) 0=false:=by
   rw[Ý];simp only[ieq,cW,beq_eq_false_iff_ne,ne_eq];omega
  rw[h,ë,show(0:Int)=((0:Nat):Int) from rfl,È (a:=x) rfl]
  cases hx:nS (k:=tI) (v:=Ù) x s with
  |none=>simp only[KD,hx]
  |some g=>simp only[KD,hx]
def Zs {l:List (Int×Int)} (hr:∀r∈l,I64 r.1) (hn:l.length≤1000):lS l=some (if l.any (fun r=>!On r) then 1 else 0):=by
 unfold lS MG;refine Eq.trans (ks l (fun r=>!On r) (fun _=>some 1) (some 1) (some 0) (fun _=>rfl) (fun i a hi ha kn=>?_) (fun kn=>?_)) ?_
 ·try dsimp only
  unfold tW;rw[Õ hi,È ha,T1 (hr a (List.mem_of_getElem? ha)),À,Î hi (by omega),Ķ]
 ·try dsimp only
  unfold tW;rw[â]
 ·cases l.any (fun r=>!On r)<;>rfl
def rq (n d:Int):Int×Int:=(n / (Nat.gcd n.natAbs d.natAbs:Nat),d / (Nat.gcd n.natAbs d.natAbs:Nat))
def lX (r:Int×Int):On r=true↔1≤r.2∧r.2≤2147483647∧(r.1.natAbs:Int)≤2147483647∧Nat.gcd r.1.natAbs r.2.natAbs=1:=by
 simp[On]
def xb {n d:Int} (hd:0<d):∃g:Nat,0<g∧g=Nat.gcd n.natAbs d.natAbs∧n=(rq n d).1*g∧d=(rq n d).2*g:=by
 have hg:0<Nat.gcd n.natAbs d.natAbs:=Nat.gcd_pos_of_pos_right _ (by omega);refine⟨_,hg,rfl,?_,?_⟩
 ·exact(Int.ediv_mul_cancel (Int.ofNat_dvd_left.2 (Nat.gcd_dvd_left _ _))).symm
 ·exact(Int.ediv_mul_cancel (Int.ofNat_dvd_left.2 (Nat.gcd_dvd_right _ _))).symm
def XN {n d:Int} (hd:0<d) (hn:n.natAbs≤2147483647) (hd2:d≤2147483647):On (rq n d)=true:=by
 obtain⟨g,h0,hg,h1,h2⟩:=xb (n:=n) hd;rw[lX]
 have a1:n.natAbs=(rq n d).1.natAbs*g:=by conv=>lhs; rw[h1]; rw[fI,fM]
 have a2:d.natAbs=(rq n d).2.natAbs*g:=by conv=>lhs; rw[h2]; rw[fI,fM]
 have p2:0<(rq n d).2:=by
  rcases Int.lt_trichotomy (rq n d).2 0 with h|h|h
  ·have:=Int.mul_neg_of_neg_of_pos h (show(0:Int)<g by omega); omega
  ·rw[h] at h2; simp at h2; omega
  ·exact h
 have b1:(rq n d).1.natAbs≤n.natAbs:=by rw[a1]; exact f9 _ h0
 have b2:(rq n d).2.natAbs≤d.natAbs:=by rw[a2]; exact f9 _ h0
 refine⟨by omega,by omega,by omega,?_⟩;have:=Nat.gcd_mul_right (rq n d).1.natAbs g (rq n d).2.natAbs;rw[←a1,←a2,←hg] at this
 have h3:(Nat.gcd (rq n d).1.natAbs (rq n d).2.natAbs)*g=1*g:=by omega
 exact Nat.eq_of_mul_eq_mul_right h0 h3
def PV {n d:Int} (hd:0<d) (hn:n.natAbs≤2147483647) (hd2:d≤2147483647):sn n d=some (rq n d,0):=by
 obtain⟨g,h0,hg,h1,h2⟩:=xb (n:=n) hd;have hr:=(lX _).1 (XN hd hn hd2);unfold sn DW;rw[Rb ⟨by omega,by omega⟩,À,Rb ⟨by omega,by omega⟩,À,ahF,À,←hg]
 have a1:n.natAbs=(rq n d).1.natAbs*g:=by conv=>lhs; rw[h1]; rw[fI,fM]
 have a2:d.natAbs=(rq n d).2.natAbs*g:=by conv=>lhs; rw[h2]; rw[fI,fM]
 have q1:Int.tdiv (n.natAbs:Int) (g:Int)=((rq n d).1.natAbs:Int):=by
  rw[a1,gY]; exact Int.mul_tdiv_cancel _ (by omega)
 have q2:Int.tdiv (d.natAbs:Int) (g:Int)=((rq n d).2.natAbs:Int):=by
  rw[a2,gY]; exact Int.mul_tdiv_cancel _ (by omega)
 have z:A5 (g:Int) 0=false:=by simp[A5]; omega
 have g1:igt ((rq n d).1.natAbs:Int) 2147483647=false:=by simp[igt]; omega
 have g2:igt ((rq n d).2.natAbs:Int) 2147483647=false:=by simp[igt]; omega
 rw[Ò z,Ò z,q1,q2,wrapU (by omega),wrapU (by omega),wrapI (by omega),wrapI (by omega),Ò g1,Ò g2]
 have hd0:ilt d 0=false:=by simp[ilt]; omega
 rw[hd0]
 have e2:((rq n d).2.natAbs:Int)=(rq n d).2:=by omega
 rw[e2]
 by_cases hneg:n<0
 ·have hn0:ilt n 0=true:=by simp[ilt,hneg]
  have:(rq n d).1≤0:=by
   rcases gW 0 (rq n d).1 with h|h
   ·have:=Int.mul_pos h (show(0:Int)<g by omega); omega
   ·exact h
  rw[hn0];rw[show(!true==false)=true from rfl,md,Ð (by omega) (by omega)]
  have:0-((rq n d).1.natAbs:Int)=(rq n d).1:=by omega
  rw[this]
 ·have hn0:ilt n 0=false:=by simp[ilt]; omega
  have:0≤(rq n d).1:=by
   rcases gW (rq n d).1 0 with h|h
   ·have:=Int.mul_neg_of_neg_of_pos h (show(0:Int)<g by omega); omega
   ·exact h
  rw[hn0];rw[show(!false==false)=false from rfl,ë]
  have:((rq n d).1.natAbs:Int)=(rq n d).1:=by omega
  rw[this]
structure zh (r:Int×Int) (n d:Int):Prop where
 rat:On r=true
 num : -n≤r.1∧r.1≤n
 den:r.2≤d
def zh.pos {r:Int×Int} {n d:Int} (h:zh r n d):1≤r.2:=((lX r).1 h.rat).1
def zh.i64 {r:Int×Int} {n d:Int} (h:zh r n d):I64 r.1:=by
 have:=((lX r).1 h.rat).2.2.1;exact⟨by omega,by omega⟩
def acA {x y:Int×Int} (hx:On x=true) (hy:On y=true):lS [x,y]=some 0:=by
 rw[Zs]
 ·simp[hx,hy]
 ·intro r hr
  have:On r=true:=by simp at hr; rcases hr with rfl|rfl<;>assumption
  have:=((lX r).1 this).2.2.1;exact⟨by omega,by omega⟩
 ·simp
def m9 {a b m n:Int} (h1 : -m≤a∧a≤m) (h2 : -n≤b∧b≤n) : -(m*n)≤a*b∧a*b≤m*n:=by
 have hm:0≤m:=by omega
 have hn:0≤n:=by omega
 have h3:(a*b).natAbs≤(m*n).natAbs:=by
  rw[fI,fI];exact fW (by omega) (by omega)
 have h4:0≤m*n:=gw hm hn;omega
def subP (x y:Int×Int):Int×Int:=rq (x.1*y.2-y.1*x.2) (x.2*y.2)
def PO {x y:Int×Int} (hx:zh x 1000 100) (hy:zh y 1000 100):(x.1*y.2-y.1*x.2).natAbs≤200000∧0<x.2*y.2∧x.2*y.2≤10000:=by
 have h1:=m9 hx.num (show -100≤y.2∧y.2≤100 from⟨by have:=hy.pos; omega,hy.den⟩);have h2:=m9 hy.num (show -100≤x.2∧x.2≤100 from⟨by have:=hx.pos; omega,hx.den⟩);have h3:=m9 (show -100≤x.2∧x.2≤100 from⟨by have:=hx.pos; omega,hx.den⟩) (show -100≤y.2∧y.2≤100 from⟨by have:=hy.pos; omega,hy.den⟩);have h4:=Int.mul_pos (show 0<x.2 by have:=hx.pos; omega) (show 0<y.2 by have:=hy.pos; omega);refine⟨by omega,h4,by omega⟩
def Sub_ok {x y:Int×Int} (hx:zh x 1000 100) (hy:zh y 1000 100):TA x y=some (subP x y,0):=by
 obtain⟨b1,b2,b3⟩:=PO hx hy;have h1:=m9 hx.num (show -100≤y.2∧y.2≤100 from⟨by have:=hy.pos; omega,hy.den⟩);have h2:=m9 hy.num (show -100≤x.2∧x.2≤100 from⟨by have:=hx.pos; omega,hx.den⟩);unfold TA Yr;rw[acA hx.rat hy.rat,À];rw[show ine (0:Int) 0=false from rfl,ë,Ð (by omega) (by omega),Ð (by omega) (by omega),Ð (by omega) (by omega),Ð (by omega) (by omega),PV b2 (by omega) (by omega),À];rfl
def ac6 {n d:Int} (hd:0<d):(rq n d).1.natAbs≤n.natAbs∧(rq n d).2≤d:=by
 obtain⟨g,h0,hg,h1,h2⟩:=xb (n:=n) hd
 have a1:n.natAbs=(rq n d).1.natAbs*g:=by conv=>lhs; rw[h1]; rw[fI,fM]
 have a2:d.natAbs=(rq n d).2.natAbs*g:=by conv=>lhs; rw[h2]; rw[fI,fM]
 have b1:(rq n d).1.natAbs≤n.natAbs:=by rw[a1]; exact f9 _ h0
 have b2:(rq n d).2.natAbs≤d.natAbs:=by rw[a2]; exact f9 _ h0
 exact⟨b1,by omega⟩
def Q6 {x y:Int×Int} (hx:zh x 1000 100) (hy:zh y 1000 100):zh (subP x y) 200000 10000:=by
 obtain⟨b1,b2,b3⟩:=PO hx hy;obtain⟨c1,c2⟩:=ac6 (n:=x.1*y.2-y.1*x.2) b2;exact⟨XN b2 (by omega) (by omega),by unfold subP; omega,by unfold subP; omega⟩
def wV (k:Int×Int) (n:Int):Int×Int:=rq (k.1*n) k.2
def P9 {k:Int×Int} (hk:zh k 200000 10000) {n:Int} (hn : -10000≤n∧n≤10000):(k.1*n).natAbs≤2000000000:=by
 have:=m9 hk.num hn;omega
def YJ {n:Int} (hn : -10000≤n∧n≤10000):On (n,1)=true:=by
 rw[lX];exact⟨by simp,by simp,by simp; omega,by simp⟩
def ahX {k:Int×Int} (hk:zh k 200000 10000) {n:Int} (hn : -10000≤n∧n≤10000):NJ k (n,1)=some (wV k n,0):=by
 have b:=P9 hk hn;have p:=hk.pos;have q:=hk.den;unfold NJ Yu;rw[acA hk.rat (YJ hn),À];rw[show ine (0:Int) 0=false from rfl,ë,Ð (by simp only; omega) (by simp only; omega),Int.mul_one,Ð (by omega) (by omega),PV (by omega) (by simp only; omega) (by omega),À];rfl
def Rz {k:Int×Int} (hk:zh k 200000 10000) {n:Int} (hn : -10000≤n∧n≤10000):zh (wV k n) 2000000000 10000:=by
 have b:=P9 hk hn;have p:=hk.pos;have q:=hk.den;obtain⟨c1,c2⟩:=ac6 (n:=k.1*n) (show 0<k.2 by omega);exact⟨XN (by omega) (by omega) (by omega),by unfold wV; omega,by unfold wV; omega⟩
def ahN (x y:Int×Int):Int:=if x=y then 0 else if x.1*y.2<y.1*x.2 then -1 else if y.1*x.2<x.1*y.2 then 1 else 0
def ahM {x y:Int×Int} {m d:Int} (hx:zh x m d) (hy:zh y m d) (hm:m≤2000000000) (hd:d≤10000):NH x y=some (ahN x y):=by
 have h1:=m9 hx.num (show -d≤y.2∧y.2≤d from⟨by have:=hy.pos; have:=hy.den; omega,hy.den⟩);have h2:=m9 hy.num (show -d≤x.2∧x.2≤d from⟨by have:=hx.pos; have:=hx.den; omega,hx.den⟩);have h0:0≤m∧0≤d:=⟨by have:=hx.num; omega,by have:=hx.pos; have:=hx.den; omega⟩;have h3:m*d≤2000000000*10000:=Int.mul_le_mul hm hd h0.2 (by omega);unfold NH Yo ahN;rw[Ð (by omega) (by omega),Ð (by omega) (by omega)];simp only[Ķ,Bool.and_true,Bool.and_eq_true,decide_eq_true_eq,A5,ilt,igt,gt_iff_lt];have:(x.1=y.1∧x.2=y.2)↔x=y:=⟨fun h=>Prod.ext h.1 h.2,fun h=>by rw[h]; exact⟨rfl,rfl⟩⟩;simp only[this]
 (repeat' split)<;>rfl
def B5 (k:Int×Int) (heat:Int×Int):(Int×Int)×(Int×Int) :=
 if 0<ahN (wV k heat.1) (wV k heat.2) then(wV k heat.2,wV k heat.1) else(wV k heat.1,wV k heat.2)
def ait {k heat:Int×Int} (hk:zh k 200000 10000) (hh:km heat (-10000) 10000=true):qG k heat=some (B5 k heat):=by
 simp only[km,Bool.and_eq_true,decide_eq_true_eq] at hh;obtain⟨h1,h2,h3⟩:=hh;have n1 : -10000≤heat.1∧heat.1≤10000:=⟨by omega,by omega⟩;have n2 : -10000≤heat.2∧heat.2≤10000:=⟨by omega,by omega⟩;have r1:zh (heat.1,1) 10000 10000:=⟨YJ n1,n1,by simp⟩;have r2:zh (heat.2,1) 10000 10000:=⟨YJ n2,n2,by simp⟩;unfold qG xT NI MO vt vg;rw[acA r1.rat r2.rat,À];have:ieq 0 0=true:=rfl;rw[Ü this,ahM r1 r2 (by omega) (by omega),À]
 have hc:ile (ahN (heat.1,1) (heat.2,1)) 0=true:=by
  unfold ahN;simp only[ile,decide_eq_true_eq,Int.mul_one]
  split
  ·omega
  ·split
   ·omega
   ·rw[if_neg (by omega)]; omega
 rw[hc,À];simp only[Bool.not_true,ë];rw[T1 hk.i64,hk.rat,À];simp only[Bool.not_true,ë];rw[ahX hk n1,À,ahX hk n2,À];simp only[show ine (0:Int) 0=false from rfl,ë];rw[ahM (Rz hk n1) (Rz hk n2) (by omega) (by omega),À];unfold B5;rw[Ķ]
 by_cases h:0<ahN (wV k heat.1) (wV k heat.2)
 ·rw[if_pos h,if_pos (by simpa[igt] using h)]; rfl
 ·rw[if_neg h,if_neg (by simpa[igt] using h)]; rfl
def Lc (s:List (Int×ï)) (c:Cmp):Int×Int:=subP (uE s (ù c.2.2.1 c.2.2.2.1)) (uE s (ù c.2.2.2.1 c.2.2.1))
def nD (b:ò) (c:Cmp):(Int×Int)×(Int×Int):=B5 (Lc (ĕ b) c) c.2.2.2.2.2.2
def aef {b:ò} (hs:yN b) {c:Cmp} (hA:c.2.2.1.length≤1000) (hB:c.2.2.2.1.length≤1000)
 (h1:zh (uE (ĕ b) (ù c.2.2.1 c.2.2.2.1)) 1000 100) (h2:zh (uE (ĕ b) (ù c.2.2.2.1 c.2.2.1)) 1000 100) (hh:km c.2.2.2.2.2.2 (-10000) 10000=true):wP b c=some (nD b c):=by
 unfold wP Ic;rw[vx hs.gauges,À,AK (by omega) (by omega),À,UA,À,AK (by omega) (by omega),À,UA,À];unfold yl xU;rw[Sub_ok h1 h2,À,À]
 try dsimp only
 rw[ait (Q6 h1 h2) hh,À];rfl
def ut (b:ò) (c:Cmp):Int×Int :=
 (((c.2.2.1.length-1:Nat):Int)*b.1.1-((c.2.2.2.1.length-1:Nat):Int)*b.1.2,((c.2.2.1.length-1:Nat):Int)*b.1.2-((c.2.2.2.1.length-1:Nat):Int)*b.1.1)
def agD {b:ò} {c:Cmp} (hA:c.2.2.1.length≤1000) (hB:c.2.2.2.1.length≤1000) (h1:0≤b.1.1) (h2:b.1.1≤1000000) (h3:0≤b.1.2) (h4:b.1.2≤1000000):A0 b c=some (ut b c):=by
 unfold A0 M8 ut
 have e:∀n:Nat,PG 0 ((n:Int)-1)=((n-1:Nat):Int):=by
  intro n;unfold PG
  split<;>omega
 have bd:∀(n:Nat) (x:Int),n≤1000→0≤x→x≤1000000→0≤((n-1:Nat):Int)*x∧((n-1:Nat):Int)*x≤1000000000:=by
  intro n x hn h0 hx;refine⟨gw (by omega) h0,?_⟩;have:=fK (show((n-1:Nat):Int)≤1000 by omega) hx h0 (by omega);omega
 have b1:=bd _ _ hA h1 h2;have b2:=bd _ _ hA h3 h4;have b3:=bd _ _ hB h1 h2;have b4:=bd _ _ hB h3 h4;simp only[Ý];rw[Ð (by omega) (by omega),Ð (by omega) (by omega)];simp only[e];rw[Ð (by omega) (by omega),Ð (by omega) (by omega),Ð (by omega) (by omega),Ð (by omega) (by omega),Ð (by omega) (by omega),Ð (by omega) (by omega)]
def aav {n d:Int} (hd:1≤d) (hn : -4000000000≤n∧n≤4000000000):AZ n d=some (n / d):=by
 unfold AZ ML
 have z:A5 d 0=false:=by simp[A5]; omega
 rw[Ò z];have t:=Int.mul_tdiv_add_tmod n d
 have b1 : -4000000000≤Int.tdiv n d∧Int.tdiv n d≤4000000000:=by
  have:=gI n d;omega
 rw[Ð (by omega) (by omega),Ò z,Ķ]
 by_cases h:Int.tmod n d<0
 ·rw[if_pos (by simpa[ilt] using h),Ð (by omega) (by omega)];congr 1
  have h5 : -d<Int.tmod n d:=by
   have h6:=Int.natAbs_tmod n d;have h7:=Nat.mod_lt n.natAbs (show 0<d.natAbs by omega);omega
  refine(Int.ediv_eq_iff_of_pos (by omega)).2 ⟨?_,?_⟩ |>.symm
  ·rw[Int.sub_mul,fZ]; omega
  ·rw[Int.sub_mul,fZ (Int.tdiv n d)]; omega
 ·rw[if_neg (by simpa[ilt] using h)];congr 1
  have h5:Int.tmod n d<d:=by
   have h6:=Int.natAbs_tmod n d;have h7:=Nat.mod_lt n.natAbs (show 0<d.natAbs by omega);omega
  refine(Int.ediv_eq_iff_of_pos (by omega)).2 ⟨?_,?_⟩ |>.symm
  ·rw[fZ]; omega
  ·rw[fZ (Int.tdiv n d)]; omega
def aho {x:Int×Int} (hx:On x=true):lS [x]=some 0:=by
 rw[Zs]
 ·simp[hx]
 ·intro r hr
  have:On r=true:=by simp at hr; subst hr; assumption
  have:=((lX r).1 this).2.2.1;exact⟨by omega,by omega⟩
 ·simp
def G3 (r:Int×Int):Int:=-(-r.1 / r.2)
def ahj {r:Int×Int} (h:On r=true):GU r=some (r.1 / r.2,0):=by
 unfold GU MQ;have:=(lX r).1 h;rw[aho h,À];rw[show ine (0:Int) 0=false from rfl,ë,aav (by omega) (by omega),À]
def IH {n d:Int} (hd:1≤d):(n / d).natAbs≤n.natAbs:=by
 exact Int.natAbs_ediv_le_natAbs n d
def ajb {r:Int×Int} (h:On r=true):KL r=some (G3 r,0):=by
 unfold KL SH G3;have:=(lX r).1 h;rw[aho h,À];rw[show ine (0:Int) 0=false from rfl,ë,Ð (by omega) (by omega),aav (by omega) (by omega),À];have hb:=IH (n:=0-r.1) (show 1≤r.2 by omega);rw[Ð (by omega) (by omega),Int.zero_sub,Int.zero_sub]
def rl (b:ò) (c:Cmp):Int×Int :=
 (c.2.2.2.2.1-c.2.2.2.2.2.1-(ut b c).2-(nD b c).2.1 / (nD b c).2.2,c.2.2.2.2.1+c.2.2.2.2.2.1-(ut b c).1-G3 (nD b c).1)
structure Ő (b:ò):Prop where
 film:0≤b.1.1∧b.1.1≤b.1.2∧b.1.2≤1000000
 nG:b.2.1.length≤12
 nU:b.2.2.1.length≤40
 nL:b.2.2.2.1.length≤12
 nC:b.2.2.2.2.1.length≤40
 nK:b.2.2.2.2.2.length≤10
 gauge:∀g∈b.2.1,Db g=true
 ids:b.2.1.Pairwise fun a b=>a.1<b.1
 uses:∀u∈b.2.2.1,Hg (ĕ b) u.1 u.2=0
 loans:∀i l,b.2.2.2.1[i]?=some l→Tg b (ĕ b) i l=0
 compares:∀i c,b.2.2.2.2.1[i]?=some c→jk b (ĕ b) i c=0
 looks:∀u∈b.2.2.2.2.2,Hg (ĕ b) u.1 u.2=0
 nodes:(Ñ b).length≤59
 links:2*(Ñ b).length+2*b.2.2.2.2.1.length≤300
def Ee (b:ò):nE b=0↔(∀g∈b.2.1,Db g=true)∧b.2.1.Pairwise fun a b=>a.1<b.1:=by
 have h0:Ŭ (AP b.2.1) 0 b.2.1=none↔(∀g∈b.2.1,Db g=true)∧b.2.1.Pairwise fun a b=>a.1<b.1:=by
  rw[oP,←KP (fun g:ï=>g.1) b.2.1];constructor
  ·intro h
   have h1:∀(j:Nat) (a:ï),b.2.1[j]?=some a→Db a=true∧qN (fun g:ï=>g.1) b.2.1 j a=false:=by
    intro j a ha;have:=h j a ha;rw[Nat.zero_add] at this;unfold AP at this
    split at this
    ·cases this
    ·split at this
     ·cases this
     ·rename_i h1 h2;exact⟨by simpa using h1,by simpa using h2⟩
   refine⟨fun x hx=>?_,fun i a ha=>(h1 i a ha).2⟩;obtain⟨j,hj,rfl⟩:=cS.1 hx;exact(h1 j _ (cF hj)).1
  ·rintro⟨h1,h2⟩ j a ha;rw[dC];simp[AP,h1 a (cO ha),h2 j a ha]
 rw[←h0];unfold nE
 cases h:Ŭ (AP b.2.1) 0 b.2.1 with
 |none=>simp
 |some e =>
  have:∀(m:List ï) (j:Nat) (x:Int),Ŭ (AP b.2.1) j m=some x→x≠0:=by
   intro m
   induction m with
   |nil=>intro j x h; cases h
   |cons a m ih =>
    intro j x h;unfold Ŭ at h
    cases hp:AP b.2.1 j a with
    |none=>rw[hp] at h; exact ih _ _ h
    |some y =>
     rw[hp] at h;cases h;unfold AP at hp
     split at hp
     ·cases hp; omega
     ·split at hp
      ·cases hp; omega
      ·cases hp
  simp[this _ _ _ h]
def ė (b:ò):ě b=0↔Ő b:=by
 unfold ě;constructor
 ·intro h
  split at h
  ·omega
  rename_i h1
  (repeat' split at h)<;>try omega
  ·rename_i hg
   have hg':nE b≠0:=by simpa using hg
   exact(hg' h).elim
  ·rename_i hf;have:=fP hf;rename_i e;simp at this;exact(this h).elim
  ·rename_i hn1 hn2 hn3 hn4 hn5 hg e hf hn6 hn7
   have hg0:nE b=0:=by simpa using hg
   obtain⟨g1,g2⟩:=(Ee b).1 hg0
   have hall:∀x∈mX b (ĕ b),x=0:=fun x hx=>by
    have:=dU.1 hf x hx;simpa using this
   simp only[mX,cM] at hall
   have hs:km b.1 0 1000000=true:=by simpa using h1
   simp only[km,cH,decide_eq_true_eq] at hs;refine⟨⟨hs.1,hs.2.1,hs.2.2⟩,by omega,by omega,by omega,by omega,by omega,g1,g2,fun u hu=>hall _ (.inl (dt.2 ⟨u,hu,rfl⟩)),fun i l hl=>?_,fun i c hc=>?_,fun u hu=>hall _ (.inr (.inr (.inr (dt.2 ⟨u,hu,rfl⟩)))),by omega,by omega⟩
   ·obtain⟨hi,rfl⟩:=cI.1 hl;exact hall _ (.inr (.inl (List.mem_mapIdx.2 ⟨i,hi,rfl⟩)))
   ·obtain⟨hi,rfl⟩:=cI.1 hc;exact hall _ (.inr (.inr (.inl (List.mem_mapIdx.2 ⟨i,hi,rfl⟩))))
 ·intro h
  have hs:km b.1 0 1000000=true:=by simp[km,h.film.1,h.film.2.1,h.film.2.2]
  have hg:nE b=0:=(Ee b).2 ⟨h.gauge,h.ids⟩
  have hall:(mX b (ĕ b)).find? (fun e=>e != 0)=none:=by
   rw[dU];intro x hx;simp only[mX,cM,dt,List.mem_mapIdx] at hx
   have:x=0:=by
    rcases hx with⟨u,hu,rfl⟩|⟨i,hi,rfl⟩|⟨i,hi,rfl⟩|⟨u,hu,rfl⟩
    ·exact h.uses u hu
    ·exact h.loans i _ (cF hi)
    ·exact h.compares i _ (cF hi)
    ·exact h.looks u hu
   simp[this]
  have:=h.nG; have:=h.nU; have:=h.nL; have:=h.nC; have:=h.nK; have:=h.nodes; have:=h.links;rw[hs,hg,hall];simp only[dD,cX,if_false,bne_self_eq_false];rw[if_neg (by omega),if_neg (by omega),if_neg (by omega),if_neg (by omega),if_neg (by omega),if_neg (by omega),if_neg (by omega)]
section
variable {b:ò}
def hZ {l:List Int} (h:qr l=true):l.length≤6:=((rr l).1 h).2.2
def Ő.nums (h:Ő b) {c:Cmp} (hc:c∈b.2.2.2.2.1):UU c=true:=by
 obtain⟨i,hi,rfl⟩:=List.mem_iff_getElem.1 hc;have:=h.compares i _ (List.getElem?_eq_getElem hi);unfold jk at this
 split at this
 ·omega
 ·rename_i h; simpa using h
def Ő.pilesOf (h:Ő b) {c:Cmp} (hc:c∈b.2.2.2.2.1):zw b (ĕ b) c=0:=by
 obtain⟨i,hi,rfl⟩:=List.mem_iff_getElem.1 hc;have:=h.compares i _ (List.getElem?_eq_getElem hi);unfold jk at this
 split at this
 ·omega
 ·split at this
  ·omega
  ·exact this
def jp (c:Cmp):UU c=true↔(1≤c.1∧c.1≤1099511627776)∧(0≤c.2.1∧c.2.1≤20000)∧(-1125899906842624≤c.2.2.2.2.1∧c.2.2.2.2.1≤1125899906842624)∧(0≤c.2.2.2.2.2.1∧c.2.2.2.2.2.1≤1073741824)∧km c.2.2.2.2.2.2 (-10000) 10000=true∧qr c.2.2.1=true∧qr c.2.2.2.1=true:=by
 simp[UU,inP,GW,and_assoc]
def Ő.size (h:Ő b):yN b:=by
 have h1:=h.nG; have h2:=h.nU; have h3:=h.nL; have h4:=h.nC; have h5:=h.nK;refine⟨by omega,by omega,by omega,by omega,by omega,fun c hc=>?_⟩;have:=(jp c).1 (h.nums hc);have a:=hZ this.2.2.2.2.2.1;have b:=hZ this.2.2.2.2.2.2;omega
def QC (g:ï):Db g=true↔On g.2.2.2.2.1=true∧(-1000≤g.2.2.2.2.1.1∧g.2.2.2.2.1.1≤1000)∧g.2.2.2.2.1.2≤100∧(1≤g.1∧g.1≤1099511627776)∧(0≤g.2.1∧g.2.1≤20000)∧(1≤g.2.2.1∧g.2.2.1≤1125899906842624)∧(-1073741824≤g.2.2.2.1.1∧g.2.2.2.1.1≤g.2.2.2.1.2∧g.2.2.2.1.2≤1073741824)∧(0≤g.2.2.2.2.2∧g.2.2.2.2.2≤1048576):=by
 simp[Db,inP,GW,km,and_assoc]
def Š {id:Int} {g:ï} (h:ç b id=some g):g∈b.2.1∧g.1=id:=by
 unfold ç at h;exact⟨List.mem_of_find?_eq_some h,by simpa using List.find?_some h⟩
def sk (hi:b.2.1.Pairwise fun a b=>a.1<b.1) {g:ï} (hg:g∈b.2.1):ç b g.1=some g:=by
 unfold ç
 induction hl:b.2.1 generalizing b with
 |nil=>rw[hl] at hg; cases hg
 |cons a t ih =>
  rw[hl] at hg hi;rw[dA] at hi;rw[fw];rcases cN.1 hg with rfl|hg
  ·simp
  ·have h1:=hi.1 g hg
   have:(a.1==g.1)=false:=by simp; omega
   rw[this];have:=ih (b:=(b.1,t,b.2.2)) hi.2 hg rfl;exact this
def HD (h:Ő b) {id day:Int} (hm:ow (ĕ b) id day=0):∃g,ç b id=some g∧g.2.1≤day:=by
 unfold ow at hm;rw[ov h.ids] at hm
 split at hm
 ·rename_i g hg
  split at hm
  ·omega
  ·exact⟨g,hg,by omega⟩
 ·omega
def LF (s:List (Int×ï)) (id day:Int):ow s id day=0∨ow s id day=4∨ow s id day=5:=by
 unfold ow
 split
 ·split<;>simp
 ·simp
def Ő.pile (h:Ő b) {c:Cmp} (hc:c∈b.2.2.2.2.1) {x:Int} (hx:x∈c.2.2.1++c.2.2.2.1):(∃g,ç b x=some g∧g.2.1≤c.2.1)∧nY b x c.2.1=none:=by
 have hp:=h.pilesOf hc;unfold zw at hp
 split at hp
 ·omega
 rename_i h5
 split at hp
 ·omega
 rename_i h4
 split at hp
 ·omega
 rename_i h9;have a5:=(eF.1 (eR.2 h5)) x hx;have a4:=(eF.1 (eR.2 h4)) x hx;have a9:=(eF.1 (eR.2 h9)) x hx;simp at a5 a4 a9;refine⟨HD h ?_,a9⟩;rcases LF (ĕ b) x c.2.1 with h0|h0|h0
 ·exact h0
 ·exact(a4 h0).elim
 ·exact(a5 h0).elim
def Ő.lefts (h:Ő b) {c:Cmp} (hc:c∈b.2.2.2.2.1):(ù c.2.2.1 c.2.2.2.1).length≤1∧(ù c.2.2.2.1 c.2.2.1).length≤1∧(ù c.2.2.1 c.2.2.2.1).length+(ù c.2.2.2.1 c.2.2.1).length≠0:=by
 have hp:=h.pilesOf hc;unfold zw at hp
 (repeat' split at hp)<;>first|omega|exact⟨by omega,by omega,by omega⟩
def lO {a c:List Int} {x:Int}:x∈ù a c↔x∈a∧x∉c:=by
 simp[ù]
def Ő.rate (h:Ő b) {p:List Int} (hp:∀x∈p,∃g,ç b x=some g):zh (uE (ĕ b) p) 1000 100:=by
 unfold uE
 cases p with
 |nil =>
  have:zh (0,1) 1000 100:=⟨by decide,by decide,by decide⟩;exact this
 |cons x t =>
  obtain⟨g,hg⟩:=hp x (by simp)
  try dsimp only
  rw[ov h.ids,hg];have:=(QC g).1 (h.gauge g (Š hg).1);exact⟨this.1,this.2.1,this.2.2.1⟩
def Ő.rates (h:Ő b) {c:Cmp} (hc:c∈b.2.2.2.2.1):zh (uE (ĕ b) (ù c.2.2.1 c.2.2.2.1)) 1000 100∧zh (uE (ĕ b) (ù c.2.2.2.1 c.2.2.1)) 1000 100:=by
 constructor
 ·exact h.rate fun x hx=>by
   obtain⟨⟨g,hg,_⟩,_⟩:=h.pile hc (dB _ (lO.1 hx).1);exact⟨g,hg⟩
 ·exact h.rate fun x hx=>by
   obtain⟨⟨g,hg,_⟩,_⟩:=h.pile hc (dw _ (lO.1 hx).1);exact⟨g,hg⟩
def Ő.growth (h:Ő b) {c:Cmp} (hc:c∈b.2.2.2.2.1):wP b c=some (nD b c):=by
 obtain⟨r1,r2⟩:=h.rates hc;have hn:=(jp c).1 (h.nums hc);have a:=hZ hn.2.2.2.2.2.1;have b:=hZ hn.2.2.2.2.2.2;exact aef h.size (by omega) (by omega) r1 r2 hn.2.2.2.2.1
def Ő.films (h:Ő b) {c:Cmp} (hA:c.2.2.1.length≤1000) (hB:c.2.2.2.1.length≤1000):A0 b c=some (ut b c):=by
 have:=h.film;exact agD hA hB (by omega) (by omega) (by omega) (by omega)
def ZY {k heat:Int×Int} (hk:zh k 200000 10000) (hh:km heat (-10000) 10000=true):zh (B5 k heat).1 2000000000 10000∧zh (B5 k heat).2 2000000000 10000:=by
 simp only[km,Bool.and_eq_true,decide_eq_true_eq] at hh;have r1:=Rz hk (n:=heat.1) ⟨by omega,by omega⟩;have r2:=Rz hk (n:=heat.2) ⟨by omega,by omega⟩;unfold B5
 split
 ·exact⟨r2,r1⟩
 ·exact⟨r1,r2⟩
def ND {c:Cmp} (hA:c.2.2.1.length≤1000) (hB:c.2.2.2.1.length≤1000) (h1:0≤b.1.1) (h2:b.1.1≤1000000) (h3:0≤b.1.2) (h4:b.1.2≤1000000) :
 (-1000000000≤(ut b c).1∧(ut b c).1≤1000000000)∧(-1000000000≤(ut b c).2∧(ut b c).2≤1000000000):=by
 have bd:∀(n:Nat) (x:Int),n≤1000→0≤x→x≤1000000→0≤((n-1:Nat):Int)*x∧((n-1:Nat):Int)*x≤1000000000:=by
  intro n x hn h0 hx;refine⟨gw (by omega) h0,?_⟩;have:=fK (show((n-1:Nat):Int)≤1000 by omega) hx h0 (by omega);omega
 have b1:=bd _ _ hA h1 h2;have b2:=bd _ _ hA h3 h4;have b3:=bd _ _ hB h1 h2;have b4:=bd _ _ hB h3 h4;unfold ut
 try dsimp only
 omega
def NA {r:Int×Int} (h:zh r 2000000000 10000) : -2000000000≤r.1 / r.2∧r.1 / r.2≤2000000000:=by
 have:=IH (n:=r.1) h.pos;have:=h.num;omega
def QR {r:Int×Int} (h:zh r 2000000000 10000) : -2000000000≤G3 r∧G3 r≤2000000000:=by
 have:=IH (n:=-r.1) h.pos;have:=h.num;unfold G3;omega
def Ő.says (h:Ő b) {c:Cmp} (hc:c∈b.2.2.2.2.1):BK b c=some (rl b c):=by
 obtain⟨r1,r2⟩:=h.rates hc;have hn:=(jp c).1 (h.nums hc);have ha:=hZ hn.2.2.2.2.2.1;have hb:=hZ hn.2.2.2.2.2.2;have hf:=h.film;obtain⟨g1,g2⟩:=ZY (Q6 r1 r2) hn.2.2.2.2.1;have fb:=ND (b:=b) (c:=c) (by omega) (by omega) (by omega) (by omega) (by omega) (by omega);have q1:zh (nD b c).1 2000000000 10000:=g1;have q2:zh (nD b c).2 2000000000 10000:=g2;have c1:=QR q1;have c2:=NA q2;unfold BK SJ rl;rw[h.growth hc,À,h.films (by omega) (by omega),À,ahj q2.rat,À,ajb q1.rat,À]
 try dsimp only
 have n3:=hn.2.2.1;have n4:=hn.2.2.2.1;rw[Ð (by omega) (by omega),Ð (by omega) (by omega),Ð (by omega) (by omega),Ð (by omega) (by omega),Ð (by omega) (by omega),Ð (by omega) (by omega)]
end
def Ġ (l:IX) (f t:Int):Int:=min l.2.1.2 (t-1)-max l.2.1.1 f+1
def ň (id f t:Int):List IX→Int
 |[]=>0
 |l::r=>(if l.1=id∧0<Ġ l f t then Ġ l f t*l.2.2 else 0)+ň id f t r
def AH (id f t:Int):∀(x y:List IX),ň id f t (x++y)=ň id f t x+ň id f t y
 |[],y=>by simp[ň]
 |l::r,y=>by
  simp only[eZ,ň,AH id f t r y];omega
def i6 (b:ò) (id f t:Int):List Int:=(b.2.2.1.filter fun u=>u.1==id&&inP u.2 f (t-1)).map fun u=>u.2
def jF (b:ò) (g:ï) (f t:Int):Int:=ň g.1 f t b.2.2.2.1+(Xj (i6 b g.1 f t)).length*g.2.2.2.2.2
def YM (a c:Int):aai a c=min a c:=by unfold aai; split<;>omega
def aec (a c:Int):PG a c=max a c:=by unfold PG; split<;>omega
def wE {b:ò} (h:Ő b) {l:IX} (hl:l∈b.2.2.2.1):(0≤l.2.1.1∧l.2.1.1≤l.2.1.2∧l.2.1.2≤20000)∧(0≤l.2.2∧l.2.2≤1048576):=by
 obtain⟨i,hi,rfl⟩:=List.mem_iff_getElem.1 hl;have:=h.loans i _ (List.getElem?_eq_getElem hi);unfold Tg at this
 split at this
 ·omega
 rename_i h1
 split at this
 ·omega
 rename_i h2;simp only[ee,Bool.not_eq_false,km,inP,cH,decide_eq_true_eq] at h1 h2;exact⟨h1,h2⟩
def Qt {l:IX} (h:(0≤l.2.1.1∧l.2.1.1≤l.2.1.2∧l.2.1.2≤20000)∧(0≤l.2.2∧l.2.2≤1048576)) {f t:Int} (hf:0≤f) (hd:0<Ġ l f t):0≤Ġ l f t*l.2.2∧Ġ l f t*l.2.2≤20001*1048576:=by
 refine⟨Int.mul_nonneg (by omega) h.2.1,Int.mul_le_mul ?_ h.2.2 h.2.1 (by omega)⟩;unfold Ġ;omega
def vl {id f t:Int} (hf:0≤f):∀{x:List IX},(∀l∈x,(0≤l.2.1.1∧l.2.1.1≤l.2.1.2∧l.2.1.2≤20000)∧(0≤l.2.2∧l.2.2≤1048576))→0≤ň id f t x∧ň id f t x≤x.length*(20001*1048576)
 |[],_=>by simp[ň]
 |l::r,h=>by
  have ih:=vl (id:=id) (t:=t) hf (x:=r) fun l hl=>h l (by simp[hl]);simp only[ň,cW,eY,fu,gD]
  split
  ·rename_i hc;have:=Qt (h l (by simp)) hf hc.2;omega
  ·omega
def adH {b:ò} (h:Ő b) {g:ï} (hg:0≤g.2.2.2.2.2∧g.2.2.2.2.2≤1048576) {f t:Int} (hf:0≤f∧f≤100000) (ht:0≤t∧t≤100000):uw b g f t=some (jF b g f t):=by
 have hL:=h.nL;have hU:=h.nU
 have hlb:∀i,0≤ň g.1 f t (b.2.2.2.1.take i)∧ň g.1 f t (b.2.2.2.1.take i)≤12*(20001*1048576):=by
  intro i;have h1:=vl (id:=g.1) (t:=t) hf.1 (x:=b.2.2.2.1.take i) fun l hl=>wE h (fU hl);have h2:((b.2.2.2.1.take i).length:Int)*(20001*1048576)≤12*(20001*1048576):=ew (by rw[cZ]; omega) (by omega);omega
 unfold uw SN;refine đ (fun x:Int×Int=>∃i:Nat,i≤b.2.2.2.1.length∧x=(ň g.1 f t (b.2.2.2.1.take i),(i:Int))) (fun x=>b.2.2.2.1.length-x.2.toNat) ?_ ⟨0,by omega,rfl⟩;rintro x ⟨i,hi,rfl⟩;rcases Nat.lt_or_ge i b.2.2.2.1.length with hlt|hge
 ·have hl:b.2.2.2.1[i]?=some b.2.2.2.1[i]:=cF hlt;have hz:=wE h (cO hl);refine .inr ⟨(ň g.1 f t (b.2.2.2.1.take (i+1)),(i:Int)+1),⟨i+1,hlt,by simp⟩,by simp; omega,fun kn=>?_⟩
  try dsimp only
  unfold ya;have b1:=hlb i;have b2:=hlb (i+1)
  have e1:ň g.1 f t (b.2.2.2.1.take (i+1))=ň g.1 f t (b.2.2.2.1.take i)+(if b.2.2.2.1[i].1=g.1∧0<Ġ b.2.2.2.1[i] f t then Ġ b.2.2.2.1[i] f t*b.2.2.2.1[i].2.2 else 0):=by
   rw[take_succ hl,AH]; simp[ň]
  rw[Õ hlt,È hl,Ð (by omega) (by omega),YM,aec,Ð (by omega) (by omega),Ð (by omega) (by omega)];rw[show min b.2.2.2.1[i].2.1.2 (t-1)-max b.2.2.2.1[i].2.1.1 f+1=Ġ b.2.2.2.1[i] f t from rfl,Ķ]
  by_cases hid:b.2.2.2.1[i].1=g.1
  ·rw[if_pos (by simpa[ieq] using hid),Ķ]
   by_cases hd:0<Ġ b.2.2.2.1[i] f t
   ·have lb:=Qt hz hf.1 hd;rw[if_pos ⟨hid,hd⟩] at e1;rw[if_pos (by simpa[igt] using hd),Ð (by omega) (by omega),Ð (by omega) (by omega),Î hlt (by omega),e1]
   ·rw[if_neg (fun hc=>hd hc.2)] at e1;rw[if_neg (by simpa[igt] using hd),Î hlt (by omega),e1,gy]
  ·rw[if_neg (fun hc=>hid hc.1)] at e1;rw[if_neg (by simpa[ieq] using hid),Î hlt (by omega),e1,gy]
 ·refine .inl fun kn=>?_
  have:i=b.2.2.2.1.length:=by omega
  subst this
  try dsimp only
  unfold ya;rw[â,List.take_length]
  have hud:∀x:List (Int×Int),x.length≤40→((x.filter fun u=>u.1==g.1&&inP u.2 f (t-1)).map fun u=>u.2).length≤40:=by
   intro x hx;rw[dz];exact cY (dV _ _) hx
  refine ĵ b.2.2.1 (fun i=>((b.2.2.1.take i).filter fun u=>u.1==g.1&&inP u.2 f (t-1)).map fun u=>u.2) _ rfl (fun i u hi hu kn'=>?_) (fun kn'=>?_)
  ·try dsimp only
   unfold xZ;have hx:=hud (b.2.2.1.take i) (by rw[List.length_take]; omega);rw[Õ hi,È hu,Ð (by omega) (by omega),ĺ,À,Ú (by simp only[List.length_singleton]; omega),Am.iff_true,Î hi (by omega),Î hi (by omega),take_succ hu,List.filter_append,List.map_append]
   cases h1:(u.1==g.1) with
   |false =>
    have:ieq u.1 g.1=false:=h1;simp only[this,ë,eA,h1,gk,cX,if_false,fA,fk,dh]
   |true =>
    have:ieq u.1 g.1=true:=h1;rw[this]
    cases h2:inP u.2 f (t-1) with
    |false=>simp only[md,ë,eA,h1,h2,dJ,cX,if_false,fA,fk,dh]
    |true=>simp only[md,eA,h1,h2,dJ,if_true,fA,fk,ej]
  ·try dsimp only
   unfold xZ;rw[â,List.take_length];rw[show((b.2.2.1.filter fun u=>u.1==g.1&&inP u.2 f (t-1)).map fun u=>u.2)=i6 b g.1 f t from rfl];have h40:(i6 b g.1 f t).length≤40:=hud _ hU
   have hc40:(Xj (i6 b g.1 f t)).length≤40:=by
    have:=Kr (i6 b g.1 f t);omega
   have hm:0≤((Xj (i6 b g.1 f t)).length:Int)*g.2.2.2.2.2∧((Xj (i6 b g.1 f t)).length:Int)*g.2.2.2.2.2≤40*1048576 :=
    ⟨gw (by omega) hg.1,fK (by omega) hg.2 hg.1 (by omega)⟩
   have b1:=hlb b.2.2.2.1.length;rw[List.take_length] at b1;dsimp only;rw[Ú (by omega),Am.iff_true,Ú (by rw[Up]; omega),Am.iff_true,acW,Ý,Ð (by omega) (by omega),Ð (by omega) (by omega)];rfl
def ŧ (b:ò) (g:ï):List Lk :=
 [(0,atP (Ñ b) [g.1] g.2.1,g.2.2.1+g.2.2.2.1.2),(atP (Ñ b) [g.1] g.2.1,0,-(g.2.2.1+g.2.2.2.1.1))] ++
 (List.range ((é b g).length-1)).flatMap fun(k:Nat)=>[(atP (Ñ b) [g.1] g.2.1+k,atP (Ñ b) [g.1] g.2.1+k+1,0),(atP (Ñ b) [g.1] g.2.1+k+1,atP (Ñ b) [g.1] g.2.1+k,jF b g ((é b g)[k]?.getD 0) ((é b g)[k+1]?.getD 0))]
def cx (b:ò) (c:Cmp):Int:=atP (Ñ b) (ù c.2.2.1 c.2.2.2.1) c.2.1
def cy (b:ò) (c:Cmp):Int:=atP (Ñ b) (ù c.2.2.2.1 c.2.2.1) c.2.1
def kd (b:ò) (c:Cmp):List Lk:=[(cy b c,cx b c,(rl b c).2),(cx b c,cy b c,-(rl b c).1)]
def Τ (b:ò):List Lk:=b.2.1.flatMap (ŧ b)++b.2.2.2.2.1.flatMap (kd b)
def i5 (b:ò) (i:Nat) (g:ï):List (Int×Int):=[(1,(i:Int)),(1,(i:Int))]++(List.range ((é b g).length-1)).flatMap fun _=>[(2,(i:Int)),(2,(i:Int))]
def ED (b:ò):List (Int×Int):=(b.2.1.mapIdx (i5 b)).flatten++(b.2.2.2.2.1.mapIdx fun i _=>[(3,(i:Int)),(3,(i:Int))]).flatten
section
variable {b:ò}
def acB (h:Ő b) {id day:Int} (hu:Hg (ĕ b) id day=0):(0≤day∧day≤20000)∧∃g,ç b id=some g∧g.2.1≤day:=by
 unfold Hg at hu
 split at hu
 ·omega
 ·rename_i hd;simp only[ee,Bool.not_eq_false,GW,inP,cH,decide_eq_true_eq] at hd;exact⟨hd,HD h hu⟩
def ε {g:ï} {d:Int}:d∈é b g↔d=g.2.1∨(∃c∈b.2.2.2.2.1,(c.2.2.1.contains g.1)≠(c.2.2.2.1.contains g.1)∧c.2.1=d)∨(∃n∈b.2.2.2.2.2,n.1=g.1∧n.2=d):=by
 unfold é;rw[Bo,TH];simp only[List.mem_append,List.mem_singleton,List.mem_map,List.mem_filter];constructor
 ·rintro((h|⟨c,⟨h1,h2⟩,h3⟩)|⟨n,⟨h1,h2⟩,h3⟩)
  ·exact .inl h
  ·exact .inr (.inl ⟨c,h1,by simpa using h2,h3⟩)
  ·exact .inr (.inr ⟨n,h1,by simpa using h2,h3⟩)
 ·rintro(h|⟨c,h1,h2,h3⟩|⟨n,h1,h2,h3⟩)
  ·exact .inl (.inl h)
  ·exact .inl (.inr ⟨c,⟨h1,by simpa using h2⟩,h3⟩)
  ·exact .inr ⟨n,⟨h1,by simpa using h2⟩,h3⟩
def Ő.gaugeR (h:Ő b) {g:ï} (hg:g∈b.2.1):On g.2.2.2.2.1=true∧(-1000≤g.2.2.2.2.1.1∧g.2.2.2.2.1.1≤1000)∧g.2.2.2.2.1.2≤100∧(1≤g.1∧g.1≤1099511627776)∧(0≤g.2.1∧g.2.1≤20000)∧(1≤g.2.2.1∧g.2.2.1≤1125899906842624)∧(-1073741824≤g.2.2.2.1.1∧g.2.2.2.1.1≤g.2.2.2.1.2∧g.2.2.2.1.2≤1073741824)∧(0≤g.2.2.2.2.2∧g.2.2.2.2.2≤1048576):=(QC g).1 (h.gauge g hg)
def Ő.day (h:Ő b) {g:ï} (hg:g∈b.2.1) {d:Int} (hd:d∈é b g):g.2.1≤d∧0≤d∧d≤20000:=by
 have hr:=h.gaugeR hg;have hgo:=sk h.ids hg;rcases ε.1 hd with rfl|⟨c,hc,h1,rfl⟩|⟨n,hn,h1,rfl⟩
 ·have:=hr.2.2.2.2.1; omega
 ·have hn:=(jp c).1 (h.nums hc)
  have hx:g.1∈c.2.2.1++c.2.2.2.1:=by
   rw[cM]
   by_cases h2:g.1∈c.2.2.1
   ·exact .inl h2
   ·refine .inr ?_
    have e1:c.2.2.1.contains g.1=false:=by simpa using h2
    rw[e1] at h1
    have:c.2.2.2.1.contains g.1=true:=by cases hh:c.2.2.2.1.contains g.1<;>simp_all
    simpa using this
  obtain⟨⟨g',h3,h4⟩,_⟩:=h.pile hc hx;rw[hgo] at h3; cases h3;have:=hn.2.1;omega
 ·obtain⟨h2,g',h3,h4⟩:=acB h (h.looks n hn);rw[h1,hgo] at h3; cases h3;omega
def uA (g:ï):g.2.1∈é b g:=ε.2 (.inl rfl)
def TG (h:Ő b) {g:ï} (hg:g∈b.2.1):(é b g).length≤59:=by
 have h1:∀l:List ï,g∈l→(é b g).length≤(l.flatMap fun g=>(é b g).map fun d=>((g.1,d):Int×Int)).length:=by
  intro l
  induction l with
  |nil=>intro hg; cases hg
  |cons a t ih =>
   intro hg;rw[dG,cJ,dz];rcases cN.1 hg with rfl|hg
   ·omega
   ·have:=ih hg; omega
 have:=h1 b.2.1 hg;have:=h.nodes;unfold Ñ at this;omega
def afp {p:List Int} {d:Int}:0≤atP (Ñ b) p d∧atP (Ñ b) p d≤(Ñ b).length:=by
 unfold atP
 cases p with
 |nil=>simp
 |cons x t =>
  try dsimp only
  cases h:la (Ñ b) x d with
  |none=>simp
  |some j=>have:=(mC h).1; dsimp only; omega
def K7 (h:Ő b) {c:Cmp} (hc:c∈b.2.2.2.2.1):(-1125904000000000≤(rl b c).1∧(rl b c).1≤1125904000000000)∧(-1125904000000000≤(rl b c).2∧(rl b c).2≤1125904000000000):=by
 obtain⟨r1,r2⟩:=h.rates hc;have hn:=(jp c).1 (h.nums hc);have ha:=hZ hn.2.2.2.2.2.1;have hb:=hZ hn.2.2.2.2.2.2;have hf:=h.film;obtain⟨g1,g2⟩:=ZY (Q6 r1 r2) hn.2.2.2.2.1;have fb:=ND (b:=b) (c:=c) (by omega) (by omega) (by omega) (by omega) (by omega) (by omega);have q1:zh (nD b c).1 2000000000 10000:=g1;have q2:zh (nD b c).2 2000000000 10000:=g2;have c1:=QR q1;have c2:=NA q2;have n3:=hn.2.2.1;have n4:=hn.2.2.2.1;unfold rl
 try dsimp only
 omega
def se (h:Ő b) {g:ï} (hg:g∈b.2.1) {f t:Int} (hf:0≤f):0≤jF b g f t∧jF b g f t≤12*(20001*1048576)+40*1048576:=by
 have hr:=(h.gaugeR hg).2.2.2.2.2.2.2;have h1:=vl (id:=g.1) (t:=t) hf (x:=b.2.2.2.1) fun l hl=>wE h hl;have h2:(b.2.2.2.1.length:Int)*(20001*1048576)≤12*(20001*1048576):=ew (by have:=h.nL; omega) (by omega)
 have h3:(i6 b g.1 f t).length≤40:=by
  unfold i6;rw[List.length_map];exact Nat.le_trans (List.length_filter_le _ _) h.nU
 have h4:=Kr (i6 b g.1 f t)
 have hm:0≤((Xj (i6 b g.1 f t)).length:Int)*g.2.2.2.2.2∧((Xj (i6 b g.1 f t)).length:Int)*g.2.2.2.2.2≤40*1048576 :=
  ⟨gw (by omega) hr.1,fK (by omega) hr.2 hr.1 (by omega)⟩
 unfold jF;omega
end
def xf {α β:Type} (f:Nat→α→β) {l:List α} {i:Nat} {a:α} (h:l[i]?=some a):(l.take (i+1)).mapIdx f=(l.take i).mapIdx f++[f i a]:=by
 have hi:i<l.length:=(cI.1 h).1
 have:(l.take i).length=i:=by rw[cZ]; omega
 rw[take_succ h,List.mapIdx_append];simp[this]
def Hr {α:Type} (f:Nat→List α) (j:Nat):(List.range (j+1)).flatMap f=(List.range j).flatMap f++f j:=by
 rw[fN,fG]; simp
def rj {α:Type} (f:Nat→List α) (n:Nat) (h:∀k,(f k).length=2):((List.range n).flatMap f).length=2*n:=by
 induction n with
 |zero=>rfl
 |succ n ih=>rw[Hr,cJ,ih,h]; omega
set_option maxHeartbeats 2000000 in
def agh {b:ò} (h:Ő b):KM b=some (b,Ñ b,(((Ñ b).length:Int)+1,Τ b),ED b):=by
 unfold KM SM;have hN:=h.nodes;have hG:=h.nG;have hC:=h.nC;rw[Rv h.size,À,Ý,Ð (by omega) (by omega)]
 -- lengths of what comes
 have gl:∀g∈b.2.1,(ŧ b g).length≤120∧∀i,(i5 b i g).length≤120:=by
  intro g hg;have:=TG h hg;constructor
  ·unfold ŧ;rw[List.length_append,rj _ _ (fun _=>rfl)];simp only[List.length_cons,List.length_nil]; omega
  ·intro i;unfold i5;rw[List.length_append,rj _ _ (fun _=>rfl)];simp only[List.length_cons,List.length_nil]; omega
 have gls:∀i,((b.2.1.take i).flatMap (ŧ b)).length≤1440∧(((b.2.1.take i).mapIdx (i5 b)).flatten).length≤1440:=by
  intro i
  induction i with
  |zero=>simp
  |succ i ih =>
   have key:∀i,i≤b.2.1.length→((b.2.1.take i).flatMap (ŧ b)).length≤i*120∧(((b.2.1.take i).mapIdx (i5 b)).flatten).length≤i*120:=by
    intro i
    induction i with
    |zero=>intro _; simp
    |succ i ih =>
     intro hi;have ih:=ih (by omega);have hg:b.2.1[i]?=some b.2.1[i]:=cF hi;have h2:=gl _ (cO hg);have h3:=h2.2 i;rw[xf _ hg,take_succ hg,fG,List.flatten_append,cJ,cJ];simp only[dG,List.flatMap_nil,dh,List.flatten_cons,List.flatten_nil];omega
   rcases df b.2.1.length (i+1) with h1|h1
   ·rw[dS (by omega)];have:=key b.2.1.length (cG _);rw[fJ] at this;omega
   ·have:=key (i+1) h1;omega
 refine ĵ b.2.1 (fun i=>((b.2.1.take i).flatMap (ŧ b),((b.2.1.take i).mapIdx (i5 b)).flatten)) _ rfl (fun i g hi hg kn=>?_) (fun kn=>?_)
 ·try dsimp only
  unfold xY;have hgm:=List.mem_of_getElem? hg;have hr:=h.gaugeR hgm;have hd:=TG h hgm;have hls:=gls i;have hat:=afp (b:=b) (p:=[g.1]) (d:=g.2.1);rw[Õ hi,È hg];rw[show qH ((b.1.1,b.1.2),b.2.1,b.2.2.1,b.2.2.2.1,b.2.2.2.2.1,b.2.2.2.2.2) g=qH b g from rfl,aeF h.size,À];rw[ai7 _ _ _ (by dsimp only; omega),À]
  try dsimp only
  have r1:=hr.2.2.2.2.2.1;have r2:=hr.2.2.2.2.2.2.1;rw[Ð (by omega) (by omega),Ð (by omega) (by omega),Ð (by omega) (by omega),Ú (by simp only[cW,dX]; omega),Am.iff_true,Ú (by simp only[cW,dX]; omega),Am.iff_true]
  refine đ (fun x:Int×List Lk×List (Int×Int)=>∃j:Nat,j+1≤(é b g).length∧x.1=(j:Int)+1 ∧
   x.2.1=(b.2.1.take i).flatMap (ŧ b)++([(0,atP (Ñ b) [g.1] g.2.1,g.2.2.1+g.2.2.2.1.2),(atP (Ñ b) [g.1] g.2.1,0,-(g.2.2.1+g.2.2.2.1.1))] ++
    (List.range j).flatMap fun(k:Nat)=>[(atP (Ñ b) [g.1] g.2.1+k,atP (Ñ b) [g.1] g.2.1+k+1,0),(atP (Ñ b) [g.1] g.2.1+k+1,atP (Ñ b) [g.1] g.2.1+k,jF b g ((é b g)[k]?.getD 0) ((é b g)[k+1]?.getD 0))]) ∧
   x.2.2=((b.2.1.take i).mapIdx (i5 b)).flatten++([(1,(i:Int)),(1,(i:Int))]++(List.range j).flatMap fun _=>[(2,(i:Int)),(2,(i:Int))])) (fun x=>(é b g).length-x.1.toNat) ?_
   ⟨0,List.length_pos_of_mem (uA g),rfl,by simp,by simp⟩
  rintro⟨x1,ls,ss⟩ ⟨j,hj,e1,e2,e3⟩;dsimp only at e1 e2 e3 ⊢;subst e1
  have hlls:ls.length≤1562:=by
   rw[e2,cJ,cJ,rj _ _ (fun _=>rfl)];simp only[cW,dX]; omega
  have hlss:ss.length≤1562:=by
   rw[e3,cJ,cJ,rj _ _ (fun _=>rfl)];simp only[cW,dX]; omega
  rcases df (j+1) (é b g).length with hlt|hge
  ·refine .inr ⟨((j:Int)+1+1,_,_),⟨j+1,hlt,by push_cast; rfl,rfl,rfl⟩,by dsimp only; omega,fun kn'=>?_⟩
   try dsimp only
   unfold xX
   have g1:(é b g)[j]?=some ((é b g)[j]?.getD 0):=by rw[cF (by omega)]; rfl
   have g2:(é b g)[j+1]?=some ((é b g)[j+1]?.getD 0):=by rw[cF hlt]; rfl
   have d1:=h.day hgm (cO g1);have d2:=h.day hgm (cO g2);have lb:=se h hgm (t:=(é b g)[j+1]?.getD 0) d1.2.1
   have ec:((j:Int)+1)=((j+1:Nat):Int):=by push_cast; rfl
   rw[ec,Õ hlt,Ð (by omega) (by omega),Ð (by omega) (by omega),Ð (by omega) (by omega),Ð (by omega) (by omega)];rw[show(((j+1:Nat):Int)-1)=((j:Nat):Int) by omega,È g1,È g2];rw[show uw ((b.1.1,b.1.2),b.2.1,b.2.2.1,b.2.2.2.1,b.2.2.2.2.1,b.2.2.2.2.2) (g.1,g.2.1,g.2.2.1,(g.2.2.2.1.1,g.2.2.2.1.2),(g.2.2.2.2.1.1,g.2.2.2.2.1.2),g.2.2.2.2.2) ((é b g)[j]?.getD 0) ((é b g)[j+1]?.getD 0)=uw b g ((é b g)[j]?.getD 0) ((é b g)[j+1]?.getD 0) from rfl];rw[adH h hr.2.2.2.2.2.2.2 ⟨by omega,by omega⟩ ⟨by omega,by omega⟩,À,Ð (by omega) (by omega),Ð (by omega) (by omega),Ú (by simp only[cW,dX]; omega),Am.iff_true,Ú (by simp only[cW,dX]; omega),Am.iff_true,Î hlt (by omega)];rw[Hr,Hr,e2,e3]
   have a1:atP (Ñ b) [g.1] g.2.1+((j+1:Nat):Int)-1=atP (Ñ b) [g.1] g.2.1+(j:Int):=by push_cast; omega
   have a2:atP (Ñ b) [g.1] g.2.1+((j+1:Nat):Int)=atP (Ñ b) [g.1] g.2.1+(j:Int)+1:=by push_cast; omega
   have a3:0-(0-jF b g ((é b g)[j]?.getD 0) ((é b g)[j+1]?.getD 0))=jF b g ((é b g)[j]?.getD 0) ((é b g)[j+1]?.getD 0):=by omega
   rw[a1,a2,a3];simp only[cR]
  ·refine .inl fun kn'=>?_
   have hje:j+1=(é b g).length:=by omega
   unfold xX;rw[show((j:Int)+1)=(((é b g).length:Nat):Int) by rw[←hje]; push_cast; rfl,â];dsimp only;rw[Î hi (by omega)];rw[xf _ hg,take_succ hg,List.flatMap_append,List.flatten_append,e2,e3,show j=(é b g).length-1 by omega];simp only[List.flatMap_cons,List.flatMap_nil,List.append_nil,List.flatten_cons,List.flatten_nil];rfl
 ·try dsimp only
  unfold xY;rw[â,List.take_length];have hls:=gls b.2.1.length;rw[List.take_length] at hls
  have cl:∀i,i≤b.2.2.2.2.1.length→((b.2.2.2.2.1.take i).flatMap (kd b)).length=2*i∧(((b.2.2.2.2.1.take i).mapIdx fun i _=>[((3:Int),(i:Int)),((3:Int),(i:Int))]).flatten).length=2*i:=by
   intro i
   induction i with
   |zero=>intro _; simp
   |succ i ih =>
    intro hi;have ih:=ih (by omega);have hg:b.2.2.2.2.1[i]?=some b.2.2.2.2.1[i]:=cF hi;rw[xf _ hg,take_succ hg,fG,List.flatten_append,cJ,cJ];simp only[dG,List.flatMap_nil,dh,List.flatten_cons,List.flatten_nil,kd,cW,dX];omega
  refine ĵ b.2.2.2.2.1 (fun i=>(b.2.1.flatMap (ŧ b)++(b.2.2.2.2.1.take i).flatMap (kd b),(b.2.1.mapIdx (i5 b)).flatten++((b.2.2.2.2.1.take i).mapIdx fun i _=>[((3:Int),(i:Int)),((3:Int),(i:Int))]).flatten)) _ (by simp) (fun i c hi hc kn'=>?_) (fun kn'=>?_)
  ·try dsimp only
   unfold xW;have hcm:=List.mem_of_getElem? hc;have hn:=(jp c).1 (h.nums hcm);have ha:=hZ hn.2.2.2.2.2.1;have hb:=hZ hn.2.2.2.2.2.2;have sb:=K7 h hcm;have c1:=cl i (by omega);rw[Õ hi,È hc,AK (by omega) (by omega),À,ai7 _ _ _ (by dsimp only; omega),À,AK (by omega) (by omega),À,ai7 _ _ _ (by dsimp only; omega),À];rw[show BK ((b.1.1,b.1.2),b.2.1,b.2.2.1,b.2.2.2.1,b.2.2.2.2.1,b.2.2.2.2.2) c=BK b c from rfl,h.says hcm,À];rw[Ð (by omega) (by omega),Ú (by simp only[List.length_append,List.length_cons,List.length_nil]; omega),Am.iff_true,Ú (by simp only[List.length_append,List.length_cons,List.length_nil]; omega),Am.iff_true,Î hi (by omega),xf _ hc,take_succ hc,List.flatMap_append,List.flatten_append];simp only[List.flatMap_cons,List.flatMap_nil,List.append_nil,List.flatten_cons,List.flatten_nil,List.append_assoc,Int.zero_sub];rfl
  ·try dsimp only
   unfold xW;rw[â,List.take_length];rfl
section
variable {ρ:Type}
def wv (w:List Bool) (v:Int):Bool:=w[v.toNat]?.getD false
def Zp {w:List Bool} {u v:Int} (hu:0≤u) (hv:0≤v) (h:u.toNat<w.length) (y:Bool):wv (w.set u.toNat y) v=if v=u then y else wv w v:=by
 unfold wv;rw[List.getElem?_set]
 by_cases hvu:v=u
 ·subst hvu; simp[h]
 ·have:¬u.toNat=v.toNat:=by omega
  simp[hvu,this]
def mg {x:List Int} {v:Int} (h:v.toNat<x.length) (f:Int→Option ρ):Ŝ x v.toNat f=f (gv x v):=i9 (aam h) f
def Rx {w:List Bool} {v:Int} (h:v.toNat<w.length) (f:Bool→Option ρ):Ŝ w v.toNat f=f (wv w v):=by
 refine i9 ?_ f;unfold wv; rw[List.getElem?_eq_getElem h]; rfl
def ς {v:Int} {n:Nat} (h0:0≤v) (h1:v<n) (x:Option ρ):è ((ile 0 v)&&(ilt v (n:Int))) x=x:=by
 have:((ile 0 v)&&(ilt v (n:Int)))=true:=by simp[ile,ilt,h0,h1]
 rw[this,Am.iff_true]
end
def sf (n least:Int):List Lk→List Int→List Bool→List Int→Bool×List Int×List Bool×List Int
 |[],x,w,q=>(true,x,w,q)
 |l::t,x,w,q =>
  if l.1≠n then sf n least t x w q else
  if gv x l.2.1≤gv x n+l.2.2 then sf n least t x w q else
  if gv x n+l.2.2<least then(false,x.set l.2.1.toNat (gv x n+l.2.2),w,q) else
  if wv w l.2.1 then sf n least t (x.set l.2.1.toNat (gv x n+l.2.2)) w q else sf n least t (x.set l.2.1.toNat (gv x n+l.2.2)) (w.set l.2.1.toNat true) (q++[l.2.1])
structure jm (L:List Lk) (N:Nat) (M:Int):Prop where
 inr:InR L N
 noloop:∀l∈L,l.1≠l.2.1
 most:∀l∈L,-M≤l.2.2∧l.2.2≤M
 len:L.length≤400
 nodes:N≤1000
 m0:0≤M
 m1:M≤4503599627370496
set_option maxHeartbeats 1000000 in
def agy {ρ:Type} {L:List Lk} {N:Nat} {M:Int} (hL:jm L N M) {n least:Int} (hn:0≤n∧n<N) {x:List Int} {w:List Bool} {q:List Int} (hx:x.length=N) (hw:w.length=N) (hq:q.length≤1000000)
 (hb : -2305843009213693952≤gv x n∧gv x n≤2305843009213693952) (K0:(Val (.pair .bool (.pair (.slice tI) (.pair (.slice .bool) (.slice tI)))))→Option ρ) (K1:(Val (.pair (.slice tI) (.pair (.slice .bool) (.slice tI))))→Option ρ) :
 Í (fun(v47:(Val (.pair tI (.pair (.slice tI) (.pair (.slice .bool) (.slice tI)))))) kk52=>jZ [] least n L (à L) v47.1 v47.2.1 v47.2.2.1 v47.2.2.2 (fun u48 u49 u50 u51=>kk52 (u48,u49,u50,u51)) K0 K1) ((0:Int),x,w,q) =
  match sf n least L x w q with
  |(true,r)=>K1 r
  |(false,r)=>K0 (false,r):=by
 have hlen:=hL.len
 refine KC L (fun i (s:List Int×List Bool×List Int) t=>match sf n least t s.1 s.2.1 s.2.2 with|(true,r)=>K1 r|(false,r)=>K0 (false,r))
  (fun i s=>s.1.length=N∧s.2.1.length=N∧gv s.1 n=gv x n∧s.2.2.length≤1000000+i) (fun s hs kn=>?_) (fun i l t s hd hi hl hI kn hk=>?_) (s:=(x,w,q)) ⟨hx,hw,rfl,by simpa using hq⟩
 ·try dsimp only
  unfold jZ;rw[â];rfl
 ·obtain⟨y,u,p⟩:=s;obtain⟨h1,h2,h3,h4⟩:=hI;dsimp only at h1 h2 h3 h4 hk ⊢;have hmem:l∈L:=List.mem_of_getElem? hl;have hr:=hL.inr l hmem;have hm:=hL.most l hmem;have hm1:=hL.m1;have hnl:=hL.noloop l hmem;unfold jZ;rw[Õ hi,È hl];unfold sf
  by_cases hln:l.1=n
  ·have e0:ine l.1 n=false:=by simp[ine,hln]
   rw[Ò e0];have e1:∀(f:Bool→Option ρ) (g:Option ρ),KD (k:=tI) (v:=.bool) (i:Int) [] f g=g:=fun f g=>rfl;rw[e1,if_neg (by simp[hln])]
   have tn:n.toNat<y.length:=by omega
   have tt:l.2.1.toNat<y.length:=by omega
   have tu:l.2.1.toNat<u.length:=by omega
   rw[ς hn.1 (by omega),mg tn,Ð (by omega) (by omega),ς hr.2.1 (by omega),mg tt,Ķ]
   by_cases hge:gv y l.2.1≤gv y n+l.2.2
   ·rw[if_pos (by simpa[ige] using hge),if_pos hge,Î hi (by omega)];exact hk (y,u,p) ⟨h1,h2,h3,by dsimp only; omega⟩
   ·rw[if_neg (by simpa[ige] using hge),if_neg hge]
    have hset:gv (y.set l.2.1.toNat (gv y n+l.2.2)) n=gv x n:=by
     rw[uq hr.2.1 hn.1 tt,if_neg (fun h=>hnl (hln.trans h)),h3]
    have hself:gv (y.set l.2.1.toNat (gv y n+l.2.2)) l.2.1=gv y n+l.2.2:=by
     rw[uq hr.2.1 hr.2.1 tt,if_pos rfl]
    rw[ς hn.1 (by omega),mg tn,Ð (by omega) (by omega),ς hr.2.1 (by omega),mg tt];rw[show(ú (List.set y l.2.1.toNat (gv y n+l.2.2)))=((y.length:Nat):Int) by simp[ú]];rw[ς hr.2.1 (by omega),mg (by simpa using tt),hself,Ķ]
    by_cases hlt:gv y n+l.2.2<least
    ·rw[if_pos (by simpa[ilt] using hlt),if_pos hlt]
    ·rw[if_neg (by simpa[ilt] using hlt),if_neg hlt,ς hr.2.1 (by omega),Rx tu,Ķ]
     cases hwv:wv u l.2.1 with
     |true =>
      rw[if_neg (by simp),if_pos rfl,Î hi (by omega)];exact hk (y.set l.2.1.toNat (gv y n+l.2.2),u,p) ⟨by simpa using h1,h2,hset,by dsimp only; omega⟩
     |false =>
      rw[if_pos (by simp),if_neg (by simp),Ú (by simp only[dI]; omega),Am.iff_true,ς hr.2.1 (by omega),Rx tu,Î hi (by omega)];exact hk (y.set l.2.1.toNat (gv y n+l.2.2),u.set l.2.1.toNat true,p++[l.2.1]) ⟨by simpa using h1,by simpa using h2,hset,by simp only[cJ,dI]; omega⟩
  ·have e0:ine l.1 n=true:=by simp[ine,hln]
   rw[Ü e0,if_pos hln,Î hi (by omega)];exact hk (y,u,p) ⟨h1,h2,h3,by dsimp only; omega⟩
structure ahn (N:Nat) (n least:Int) (L:List Lk) (x:List Int) (q:List Int) (x':List Int) (w':List Bool) (q':List Int):Prop where
 lx:x'.length=N
 lw:w'.length=N
 same:gv x' n=gv x n
 le:∀v:Int,0≤v→v<N→gv x' v≤gv x v
 link:∀v m,(n,v,m)∈L→gv x' v≤gv x n+m
 chg:∀v:Int,0≤v→v<N→gv x' v=gv x v∨(v∈q'∧gv x' v<gv x v∧∃m,(n,v,m)∈L∧gv x' v=gv x n+m∧least≤gv x' v)
 new:∃l,q'=q++l∧∀v∈l,(0≤v∧v<N)∧gv x' v<gv x v
 nodup:q'.Nodup
 waits:∀v:Int,0≤v→v<N→(wv w' v=true↔v∈q')
def mP {N:Nat} {n least:Int} (hn:0≤n∧n<N):∀{L:List Lk},InR L N→(∀l∈L,l.1≠l.2.1)→∀{x:List Int} {w:List Bool} {q:List Int},x.length=N→w.length=N→q.Nodup→(∀v:Int,0≤v→v<N→(wv w v=true↔v∈q)) →
 ∀{x':List Int} {w':List Bool} {q':List Int},sf n least L x w q=(true,x',w',q')→ahn N n least L x q x' w' q'
 |[],_,_,x,w,q,hx,hw,hq,hwq,x',w',q',h=>by
  cases h;exact⟨hx,hw,rfl,fun _ _ _=>dP _,fun _ _ h=>(by cases h),fun _ _ _=>.inl rfl,⟨[],by simp,fun _ h=>by cases h⟩,hq,hwq⟩
 |l::t,hL,hnl,x,w,q,hx,hw,hq,hwq,x',w',q',h=>by
  have hLt:InR t N:=fun l hl=>hL l (by simp[hl]);have hnt:∀l∈t,l.1≠l.2.1:=fun l hl=>hnl l (by simp[hl]);have hr:=hL l (by simp);have hl0:=hnl l (by simp);unfold sf at h
  split at h
  ·rename_i hne;have a:=mP hn hLt hnt hx hw hq hwq h
   exact⟨a.lx,a.lw,a.same,a.le,fun v m hm=>by
    rcases cN.1 hm with rfl|hm
    ·exact(hne rfl).elim
    ·exact a.link v m hm,fun v h0 h1=>(a.chg v h0 h1).imp id fun⟨g1,g2,m,g3,g4⟩=>⟨g1,g2,m,by simp[g3],g4⟩,a.new,a.nodup,a.waits⟩
  ·rename_i hne
   have hln:l.1=n:=by simpa using hne
   split at h
   ·rename_i hle;have a:=mP hn hLt hnt hx hw hq hwq h
    exact⟨a.lx,a.lw,a.same,a.le,fun v m hm=>by
     rcases cN.1 hm with rfl|hm
     ·have:=a.le v hr.2.1 hr.2.2; simp only at hle; omega
     ·exact a.link v m hm,fun v h0 h1=>(a.chg v h0 h1).imp id fun⟨g1,g2,m,g3,g4⟩=>⟨g1,g2,m,by simp[g3],g4⟩,a.new,a.nodup,a.waits⟩
   ·rename_i hgt
    split at h
    ·cases h
    ·rename_i hls
     have tt:l.2.1.toNat<x.length:=by omega
     have tw:l.2.1.toNat<w.length:=by omega
     have hy:(x.set l.2.1.toNat (gv x n+l.2.2)).length=N:=by simpa using hx
     have hyn:gv (x.set l.2.1.toNat (gv x n+l.2.2)) n=gv x n:=by
      rw[uq hr.2.1 hn.1 tt,if_neg (fun h=>hl0 (hln.trans h))]
     have hyv:∀v,0≤v→gv (x.set l.2.1.toNat (gv x n+l.2.2)) v=if v=l.2.1 then gv x n+l.2.2 else gv x v:=fun v h0=>uq hr.2.1 h0 tt _
     have hlm:(n,l.2.1,l.2.2)∈l::t:=by rw[←hln]; simp
     -- what both ways have in common
     have fin:∀{w1:List Bool} {q1:List Int},ahn N n least t (x.set l.2.1.toNat (gv x n+l.2.2)) q1 x' w' q'→l.2.1∈q1→(∃l',q1=q++l'∧∀v∈l',v=l.2.1)→ahn N n least (l::t) x q x' w' q':=by
      intro w1 q1 a hmem hq1;obtain⟨new,hnew,hnv⟩:=a.new;obtain⟨l',hl',hlv⟩:=hq1
      have hto:gv x' l.2.1≤gv x n+l.2.2:=by
       have:=a.le l.2.1 hr.2.1 hr.2.2;rw[hyv _ hr.2.1,if_pos rfl] at this;exact this
      refine⟨a.lx,a.lw,a.same.trans hyn,fun v h0 h1=>?_,fun v m hm=>?_,fun v h0 h1=>?_,⟨l'++new,by rw[hnew,hl',cR],fun v hv=>?_⟩,a.nodup,a.waits⟩
      ·have:=a.le v h0 h1;rw[hyv v h0] at this
       split at this
       ·rename_i e; subst e; omega
       ·exact this
      ·rcases cN.1 hm with rfl|hm
       ·exact hto
       ·have:=a.link v m hm
        rwa [hyn] at this
      ·rcases a.chg v h0 h1 with g|⟨g1,g2,m,g3,g4,g5⟩
       ·rw[hyv v h0] at g
        split at g
        ·rename_i e;subst e;exact .inr ⟨by rw[hnew]; exact dB _ hmem,by omega,l.2.2,hlm,g,by omega⟩
        ·exact .inl g
       ·rw[hyv v h0] at g2;rw[hyn] at g4;refine .inr ⟨g1,?_,m,by simp[g3],g4,g5⟩
        split at g2
        ·rename_i e; subst e; omega
        ·exact g2
      ·rcases cM.1 hv with hv|hv
       ·rw[hlv v hv]; exact⟨hr.2,by omega⟩
       ·obtain⟨g1,g2⟩:=hnv v hv;rw[hyv v g1.1] at g2;refine⟨g1,?_⟩
        split at g2
        ·rename_i e; subst e; omega
        ·exact g2
     split at h
     ·rename_i hwt;exact fin (w1:=w) (mP hn hLt hnt hy hw hq hwq h) ((hwq _ hr.2.1 hr.2.2).1 hwt) ⟨[],by simp,fun _ h=>by cases h⟩
     ·rename_i hwt;have hnq:l.2.1∉q:=fun hc=>hwt ((hwq _ hr.2.1 hr.2.2).2 hc);refine fin (w1:=w.set l.2.1.toNat true) (mP hn hLt hnt hy (by simpa using hw) ?_ ?_ h) (by simp) ⟨[l.2.1],rfl,fun v hv=>by simpa using hv⟩
      ·rw[List.nodup_append];exact⟨hq,by simp,fun a ha b hb=>by simp at hb; subst hb; exact fun e=>hnq (e▸ha)⟩
      ·intro v h0 h1;rw[Zp hr.2.1 h0 tw]
       by_cases hv:v=l.2.1
       ·simp[hv]
       ·simp only[hv,if_false,cM,cP,or_false];exact hwq v h0 h1
def pO {n least:Int}:∀{L:List Lk},(∀l∈L,l.1≠l.2.1)→(∀l∈L,0≤l.2.1)→0≤n→∀{x:List Int} {w:List Bool} {q:List Int} {r},sf n least L x w q=(false,r)→∃v m,(n,v,m)∈L∧gv x n+m<least
 |[],_,_,_,x,w,q,r,h=>by cases h
 |l::t,hnl,h0,hn,x,w,q,r,h=>by
  have hnt:∀l∈t,l.1≠l.2.1:=fun l hl=>hnl l (by simp[hl]);have h0t:∀l∈t,0≤l.2.1:=fun l hl=>h0 l (by simp[hl]);have up:(∃v m,(n,v,m)∈t∧gv x n+m<least)→∃v m,(n,v,m)∈l::t∧gv x n+m<least:=fun⟨v,m,g1,g2⟩=>⟨v,m,by simp[g1],g2⟩;unfold sf at h
  split at h
  ·exact up (pO hnt h0t hn h)
  ·rename_i hne
   have hln:l.1=n:=by simpa using hne
   split at h
   ·exact up (pO hnt h0t hn h)
   ·split at h
    ·rename_i hlt;exact⟨l.2.1,l.2.2,by rw[←hln]; simp,hlt⟩
    ·have hyn:gv (x.set l.2.1.toNat (gv x n+l.2.2)) n=gv x n:=by
      unfold gv;rw[List.getElem?_set];have h1:=hnl l (by simp);have h2:=h0 l (by simp)
      have:¬l.2.1.toNat=n.toNat:=by omega
      simp[this]
     split at h
     ·have:=pO hnt h0t hn h;rw[hyn] at this;exact up this
     ·have:=pO hnt h0t hn h;rw[hyn] at this;exact up this
def ZZ {ρ:Type} {L:List Lk} {N:Nat} {M:Int} (hL:jm L N M) {n least:Int} (hn:0≤n∧n<N) {x:List Int} {w:List Bool} {t rest:List Int} (hx:x.length=N) (hw:w.length=N) (ht:t.length=N) (hq:rest.length≤1000000)
 (hb : -2305843009213693952≤gv x n∧gv x n≤2305843009213693952) (htn:0≤gv t n∧gv t n≤1000000) (kn:List Int→List Bool→List Int→List Int→Option ρ) (k0:(Val (.pair .bool (.pair (.slice tI) (.pair (.slice .bool) (.pair (.slice tI) (.slice tI))))))→Option ρ) :
 ļ [] least (N:Int) L x w t (n::rest) kn k0 =
  if (N:Int)+1<gv t n+1 then k0 (false,x,w.set n.toNat false,t.set n.toNat (gv t n+1),rest) else
  match sf n least L x (w.set n.toNat false) rest with
  |(true,x',w',q')=>kn x' w' (t.set n.toNat (gv t n+1)) q'
  |(false,x',w',q')=>k0 (false,x',w',t.set n.toNat (gv t n+1),q'):=by
 have hN:=hL.nodes
 have tn:n.toNat<x.length:=by omega
 have tw:n.toNat<w.length:=by omega
 have tt:n.toNat<t.length:=by omega
 unfold ļ
 have e0:ieq (à (n::rest)) 0=false:=by
  rw[Ý];simp only[ieq,cW,beq_eq_false_iff_ne,ne_eq];omega
 have e1:ilt (0:Int) (ú (n::rest))=true:=by simp[ilt,ú]
 have e2:ile (1:Int) (ú (n::rest))=true:=by simp[ile,ú]; omega
 have e3:decide (1+(List.length (n::rest)-1)=List.length (n::rest))=true:=by simp; omega
 rw[Ò e0,ÿ e1];rw[show Ŝ (n::rest) 0=fun(f:Int→Option ρ)=>f n from rfl]
 try dsimp only
 rw[ÿ e2,ÿ e3,ς hn.1 (by omega),Rx tw,ς hn.1 (by omega),mg tt,Ð (by omega) (by omega),ς hn.1 (by omega),mg tt];rw[show(ú (List.set t n.toNat (gv t n+1)))=((t.length:Nat):Int) by simp[ú]];rw[ς hn.1 (by omega),mg (by simpa using tt),uq hn.1 hn.1 tt,if_pos rfl,Ð (by omega) (by omega),Ķ];rw[show List.drop 1 (n::rest)=rest from rfl]
 by_cases hlt:(N:Int)+1<gv t n+1
 ·rw[if_pos (by simpa[igt] using hlt),if_pos hlt]
 ·rw[if_neg (by simpa[igt] using hlt),if_neg hlt];rw[agy hL hn hx (w:=w.set n.toNat false) (by simpa using hw) hq hb];generalize sf n least L x (w.set n.toNat false) rest=r;obtain⟨b,x',w',q'⟩:=r
  cases b<;>rfl
def adi {ρ:Type} {L:List Lk} {N:Int} {least:Int} {x:List Int} {w:List Bool} {t:List Int} (kn:List Int→List Bool→List Int→List Int→Option ρ) (k0:(Val (.pair .bool (.pair (.slice tI) (.pair (.slice .bool) (.pair (.slice tI) (.slice tI))))))→Option ρ) :
 ļ [] least N L x w t [] kn k0=k0 (true,x,w,t,[]):=by
 unfold ļ
 have e0:ieq (à ([]:List Int)) 0=true:=by rw[Ý]; rfl
 rw[Ü e0]
def Tj (N:Nat) (t:List Int):Nat:=(t.map fun a=>((N:Int)+2-a).toNat).sum
def aac (N:Nat):∀(t:List Int) (i:Nat) (a b:Int),t[i]?=some a→a<b→a<(N:Int)+2→Tj N (t.set i b)<Tj N t
 |a0::t,0,a,b,h,h1,h2=>by
  simp at h; subst h;simp only[Tj,List.set_cons_zero,ej,List.sum_cons];omega
 |a0::t,i+1,a,b,h,h1,h2=>by
  have:=aac N t i a b (by simpa using h) h1 h2;simp only[Tj] at this;simp only[Tj,List.set_cons_succ,ej,List.sum_cons];omega
def Wj {N:Nat} {t:List Int} {n:Int} (hn:n.toNat<t.length) (h:gv t n≤(N:Int)+1):Tj N (t.set n.toNat (gv t n+1))<Tj N t :=
 aac N t n.toNat (gv t n) _ (aam hn) (by omega) (by omega)
structure acn (L:List Lk) (S:Int→Prop) (N:Nat) (M:Int) (k:Nat) (A B:List Int) (x:List Int) (w:List Bool) (t q:List Int):Prop where
 q_eq:q=A++B
 lx:x.length=N
 lw:w.length=N
 lt:t.length=N
 nodup:q.Nodup
 rng:∀v∈q,0≤v∧v<N
 waits:∀v:Int,0≤v→v<N→(wv w v=true↔v∈q)
 t0:∀v:Int,0≤v→v<N→0≤gv t v∧gv t v≤(k:Int)+1
 tA:∀v∈A,gv t v≤k
 low:∀vs v d,Wl L S vs v d→vs.length≤k→gv x v≤d
 nxt:∀vs u d,Wl L S vs u d→vs.length≤k→u∉A→∀v m,(u,v,m)∈L→gv x v≤d+m
 rel:∀u:Int,0≤u→u<N→u∉q→gv x u≠ŵ→∀v m,(u,v,m)∈L→gv x v≤gv x u+m
 att:∀v:Int,0≤v→v<N→gv x v≠ŵ→∃vs,Wl L S vs v (gv x v)
 bd:∀v:Int,0≤v→v<N→gv x v=ŵ∨gv x v≤((k:Int)+1)*M
 bA:∀v∈A,gv x v≤(k:Int)*M
 fin:∀v∈q,gv x v<ŵ
 kN:k+1≤N
 last:k+1=N→B=[]
section
variable {L:List Lk} {S:Int→Prop} {N:Nat} {M:Int} {p:Int→Int} {k:Nat} {A B x:List Int} {w:List Bool} {t q:List Int}
def Kx {a b:Nat} {M:Int} (h:a≤b) (hM:0≤M):(a:Int)*M≤(b:Int)*M:=ew (by omega) hM
def Wl.lt_free (hL:jm L N M) (hNM:N*M<ŵ) {vs:List Int} {v d:Int} (hw:Wl L S vs v d) (h:vs.length≤N):d<ŵ:=by
 have h1:=hw.high fun l hl=>(hL.most l hl).2;have h2:=Kx h hL.m0;omega
def acn.next (hL:jm L N M) (hNM:N*M<ŵ) (hS:∀v,S v→0≤v∧v<N) (h:acn L S N M k [] B x w t q) (hB:B≠[]):acn L S N M (k+1) B [] x w t q:=by
 have hM:=hL.m0
 have hq:q=B:=by simpa using h.q_eq
 have hk:k+1≠N:=fun e=>hB (h.last e);have hkN:=h.kN
 have low':∀vs v d,Wl L S vs v d→vs.length≤k+1→gv x v≤d:=by
  intro vs v d hw hl
  cases hw with
  |nil hs=>exact h.low [] v 0 (.nil hs) (by simp)
  | @step vs u _ m d hw hlk=>exact h.nxt vs u d hw (by simpa using hl) (by simp) v m hlk
 refine⟨by simp[hq],h.lx,h.lw,h.lt,h.nodup,h.rng,h.waits,fun v h0 h1=>⟨(h.t0 v h0 h1).1,by have:=(h.t0 v h0 h1).2; push_cast; omega⟩,fun v hv=>?_,low',fun vs u d hw hl hu v m hlk=>?_,h.rel,h.att,fun v h0 h1=>?_,fun v hv=>?_,h.fin,by omega,fun _=>rfl⟩
 ·have:=h.rng v (by rw[hq]; exact hv);have:=(h.t0 v this.1 this.2).2;push_cast; omega
 ·have h1:=low' vs u d hw hl;have h2:=hw.lt_free hL hNM (by omega);have h3:=(hw.range hL.inr hS).1;have:=h.rel u h3.1 h3.2 (by rw[hq]; exact hu) (by omega) v m hlk;omega
 ·rcases h.bd v h0 h1 with h2|h2
  ·exact .inl h2
  ·refine .inr ?_;have:=Kx (show k+1≤k+1+1 by omega) hM;push_cast at this ⊢;omega
 ·have h1:=h.rng v (by rw[hq]; exact hv);have h2:=h.fin v (by rw[hq]; exact hv);rcases h.bd v h1.1 h1.2 with h3|h3
  ·omega
  ·push_cast; exact h3
def acn.step {n:Int} {A':List Int} {least:Int} {x':List Int} {w':List Bool} {q':List Int} (hL:jm L N M) (hNM:N*M<ŵ) (hp:Pot L p) (hS:∀v,S v→0≤v∧v<N) (h:acn L S N M k (n::A') B x w t q)
 (ha:ahn N n least L x (A'++B) x' w' q'):∃B',acn L S N M k A' B' x' w' (t.set n.toNat (gv t n+1)) q':=by
 have hM:=hL.m0
 have hq:q=n::(A'++B):=by simpa using h.q_eq
 have hkN:=h.kN;have hnr:=h.rng n (by rw[hq]; simp);have hnf:=h.fin n (by rw[hq]; simp)
 have hnd:n∉A'++B:=by have:=h.nodup; rw[hq,eT] at this; exact this.1
 have htn:n.toNat<t.length:=by have:=h.lt; omega
 have tset:∀v,0≤v→gv (t.set n.toNat (gv t n+1)) v=if v=n then gv t n+1 else gv t v:=fun v h0=>uq hnr.1 h0 htn _
 have hkM:((k:Int)+1)*M<ŵ:=by
  have:=Kx hkN hM;push_cast at this;omega
 have xle:∀v:Int,0≤v→v<N→gv x v≤ŵ:=fun v h0 h1=>by rcases h.bd v h0 h1 with h2|h2<;>omega
 obtain⟨l,hl,hlv⟩:=ha.new
 have att':∀v:Int,0≤v→v<N→gv x' v≠ŵ→∃vs,Wl L S vs v (gv x' v):=by
  intro v h0 h1 hne;rcases ha.chg v h0 h1 with g|⟨_,_,m,g3,g4,_⟩
  ·rw[g] at hne ⊢; exact h.att v h0 h1 hne
  ·obtain⟨vs,hw⟩:=h.att n hnr.1 hnr.2 (by omega);rw[g4]; exact⟨_,hw.step g3⟩
 refine⟨B++l,by rw[hl,cR],ha.lx,ha.lw,by rw[fh]; exact h.lt,ha.nodup,fun v hv=>?_,ha.waits,fun v h0 h1=>?_,fun v hv=>?_,fun vs v d hw hlen=>?_,fun vs u d hw hlen hu v m hlk=>?_,
  fun u h0 h1 hu hf v m hlk=>?_,att',fun v h0 h1=>?_,fun v hv=>?_,fun v hv=>?_,hkN,fun hk=>?_⟩
 ·rw[hl] at hv;rcases cM.1 hv with hv|hv
  ·exact h.rng v (by rw[hq]; simp only[cN]; exact .inr hv)
  ·exact(hlv v hv).1
 ·rw[tset v h0];have h2:=h.t0 v h0 h1
  split
  ·have h3:=h.tA n (by simp);have h4:=h.t0 n hnr.1 hnr.2;omega
  ·exact h2
 ·have h1:=h.rng v (by rw[hq]; simp[hv]);rw[tset v h1.1,if_neg (fun e=>hnd (by rw[←e]; simp[hv]))];exact h.tA v (by simp[hv])
 ·have h1:=h.low vs v d hw hlen;have h2:=(hw.range hL.inr hS).1;have:=ha.le v h2.1 h2.2;omega
 ·have hvr:=(hL.inr _ hlk).2
  by_cases hun:u=n
  ·subst hun;have h1:=ha.link v m hlk;have h2:=h.low vs u d hw hlen;omega
  ·have h1:=h.nxt vs u d hw hlen (by simp[hun,hu]) v m hlk;have:=ha.le v hvr.1 hvr.2;omega
 ·have hvr:=(hL.inr _ hlk).2
  have heq:gv x' u=gv x u:=by
   rcases ha.chg u h0 h1 with g|⟨g,_⟩
   ·exact g
   ·exact(hu g).elim
  by_cases hun:u=n
  ·subst hun;have h1:=ha.link v m hlk;omega
  ·have hur:u∉q:=by
    rw[hq];intro hc;rcases cN.1 hc with e|hc
    ·exact hun e
    ·exact hu (by rw[hl]; exact dB _ hc)
   have h2:=h.rel u h0 h1 hur (by rw[←heq]; exact hf) v m hlk;have:=ha.le v hvr.1 hvr.2;omega
 ·rcases ha.chg v h0 h1 with g|⟨_,_,m,g3,g4,_⟩
  ·rw[g]; exact h.bd v h0 h1
  ·have h2:=h.bA n (by simp);have h3:=(hL.most _ g3).2;simp only at h3;refine .inr ?_;rw[g4,fu,gD];omega
 ·have h1:=h.rng v (by rw[hq]; simp[hv]);have h2:=h.bA v (by simp[hv]);have:=ha.le v h1.1 h1.2;omega
 ·rw[hl] at hv;rcases cM.1 hv with hv|hv
  ·have h1:=h.rng v (by rw[hq]; simp only[cN]; exact .inr hv);have h2:=h.fin v (by rw[hq]; simp only[cN]; exact .inr hv);have:=ha.le v h1.1 h1.2;omega
  ·obtain⟨g1,g2⟩:=hlv v hv;have:=xle v g1.1 g1.2;omega
 ·rw[h.last hk]
  cases l with
  |nil=>rfl
  |cons v l =>
   exfalso;obtain⟨g1,g2⟩:=hlv v (by simp);have:=xle v g1.1 g1.2;obtain⟨vs,hw⟩:=att' v g1.1 g1.2 (by omega);obtain⟨vs',d',k1,k2,k3⟩:=hw.simple hp;have k4:=k1.short hL.inr hS k3;have:=h.low vs' v d' k1 (by omega);omega
def acn.done (hL:jm L N M) (hNM:N*M<ŵ) (hp:Pot L p) (hS:∀v,S v→0≤v∧v<N) (h:acn L S N M k A B x w t []):acp L S N (gv x):=by
 have hkN:=h.kN;have hM:=hL.m0
 have hkM:((k:Int)+1)*M<ŵ:=by
  have:=Kx hkN hM;push_cast at this;omega
 have key:∀vs v d,Wl L S vs v d→vs.length+1≤N→gv x v≤d:=by
  intro vs v d hw
  induction hw with
  |nil hs=>intro _; exact h.low [] _ 0 (.nil hs) (by simp)
  | @step vs u v m d hw hlk ih =>
   intro hlen;simp only[cW] at hlen;have h1:=ih (by omega);have h2:=hw.lt_free hL hNM (by omega);have h3:=(hw.range hL.inr hS).1;have:=h.rel u h3.1 h3.2 (by simp) (by omega) v m hlk;omega
 refine⟨h.att,fun v vs d hw=>?_,fun v h0 h1=>?_⟩
 ·obtain⟨vs',d',k1,k2,k3⟩:=hw.simple hp;have:=key vs' v d' k1 (k1.short hL.inr hS k3);omega
 ·rcases h.bd v h0 h1 with h2|h2<;>omega
def Un {ρ:Type} {r:Option ρ} (hL:jm L N M) (hNM:N*M<ŵ) (hp:Pot L p) (hS:∀v,S v→0≤v∧v<N) (k0:(Val (.pair .bool (.pair (.slice tI) (.pair (.slice .bool) (.pair (.slice tI) (.slice tI))))))→Option ρ)
 (hK:∀x w t q,x.length=N→acp L S N (gv x)→k0 (true,x,w,t,q)=r) (h:acn L S N M k A B x w t q) :
 Í (fun(v64:(Val (.pair (.slice tI) (.pair (.slice .bool) (.pair (.slice tI) (.slice tI)))))) kk69=>ļ [] (Kw L) (N:Int) L v64.1 v64.2.1 v64.2.2.1 v64.2.2.2 (fun u65 u66 u67 u68=>kk69 (u65,u66,u67,u68)) k0) (x,w,t,q)=r:=by
 refine đ (fun s:List Int×List Bool×List Int×List Int=>∃k A B,acn L S N M k A B s.1 s.2.1 s.2.2.1 s.2.2.2) (fun s=>Tj N s.2.2.1) ?_ ⟨k,A,B,h⟩;rintro⟨x,w,t,q⟩ ⟨k,A,B,h⟩;dsimp only at h ⊢;have hN:=hL.nodes
 cases q with
 |nil=>exact .inl fun kn=>by rw[adi]; exact hK x w t [] h.lx (h.done hL hNM hp hS)
 |cons n rest =>
  -- the phase in which the first one is
  have hph:∃k A' B,acn L S N M k (n::A') B x w t (n::rest):=by
   cases A with
   |nil =>
    have hB:B=n::rest:=by simpa using h.q_eq.symm
    subst hB;exact⟨k+1,rest,[],h.next hL hNM hS (by simp)⟩
   |cons a A' =>
    have:=h.q_eq;simp only[eZ,List.cons.injEq] at this;obtain⟨rfl,_⟩:=this;exact⟨k,A',B,h⟩
  clear h k A B;obtain⟨k,A',B,h⟩:=hph
  have hrest:rest=A'++B:=by have:=h.q_eq; simpa using this
  have hnr:=h.rng n (by simp);have hnf:=h.fin n (by simp);have hkN:=h.kN;have h1:=h.tA n (by simp);have h2:=h.t0 n hnr.1 hnr.2;obtain⟨vs,hw⟩:=h.att n hnr.1 hnr.2 (by omega);have hlow:=hw.low' hp
  have hneg : -(400*4503599627370496)≤Kw L:=by
   have:∀L':List Lk,(∀l∈L',-M≤l.2.2)→-((L'.length:Int)*M)≤Kw L':=by
    intro L'
    induction L' with
    |nil=>intro _; simp[Kw,JJ]
    |cons l t ih =>
     intro hh;have i1:=ih fun l hl=>hh l (by simp[hl]);have i2:=hh l (by simp);have i3:=hL.m0;unfold Kw at i1 ⊢;simp only[JJ,if_true,List.length_cons,Int.natCast_succ,Int.add_mul,Int.one_mul];omega
   have h3:=this L fun l hl=>(hL.most l hl).1;have h4:(L.length:Int)*M≤400*4503599627370496:=fK (by have:=hL.len; omega) hL.m1 hL.m0 (by omega);omega
  have hrl:rest.length≤1000000:=by
   have:=ZO N (n::rest) h.nodup h.rng;simp only[cW] at this;omega
  refine .inr ?_
  have hw':(w.set n.toNat false).length=N:=by rw[fh]; exact h.lw
  cases hr:sf n (Kw L) L x (w.set n.toNat false) rest with
  |mk b r' =>
  obtain⟨x',w',q'⟩:=r'
  cases b with
  |false =>
   exfalso;obtain⟨v,m,g1,g2⟩:=pO hL.noloop (fun l hl=>(hL.inr l hl).2.1) hnr.1 hr;have:=(hw.step g1).low' hp;omega
  |true =>
   have hnd:=h.nodup;rw[eT] at hnd
   have ha:=mP hnr hL.inr hL.noloop h.lx hw' hnd.2 (fun v h0 h1=>by
    rw[Zp hnr.1 h0 (by have:=h.lw; omega)]
    by_cases hv:v=n
    ·subst hv; simp[hnd.1]
    ·rw[if_neg hv,h.waits v h0 h1]
     simp[hv]) hr
   rw[hrest] at ha;obtain⟨B',hB'⟩:=h.step hL hNM hp hS ha;refine⟨(x',w',t.set n.toNat (gv t n+1),q'),⟨k,A',B',hB'⟩,Wj (by have:=h.lt; omega) (by omega),fun kn=>?_⟩;have hF:ŵ=1152921504606846976:=rfl
   rw[ZZ hL hnr h.lx h.lw h.lt hrl (by constructor<;>omega) (by constructor<;>omega),if_neg (by omega),hr]
end
def Lu (f:Lk→Bool):∀(L L':List Lk),JJ f (L++L')=JJ f L+JJ f L'
 |[],L'=>by simp[JJ]
 |l::t,L'=>by
  simp only[eZ,JJ,Lu f t L'];omega
def UX {L:List Lk} {i:Nat} {l:Lk} (h:L[i]?=some l):Kw (L.take (i+1))=Kw (L.take i)+min l.2.2 0:=by
 rw[take_succ h,Kw,Kw,Lu];simp[JJ]
def imin0 (e:Int):aai e 0=min e 0:=by
 unfold aai
 split<;>omega
def XY {L:List Lk} {M:Int} (h:∀l∈L,-M≤l.2.2) (hM:0≤M) : -((L.length:Int)*M)≤Kw L:=by
 induction L with
 |nil=>simp[Kw,JJ]
 |cons l t ih =>
  have i1:=ih fun l hl=>h l (by simp[hl]);have i2:=h l (by simp);unfold Kw at i1 ⊢;simp only[JJ,if_true,List.length_cons,Int.natCast_succ,Int.add_mul,Int.one_mul];omega
def aiy (L:List Lk):Kw L≤0:=xd _ L
section
variable {ρ:Type} {L:List Lk} {N:Nat} {M:Int}
def aae (hL:jm L N M) (k0:Int→Option ρ):Í (fun(v75:Val Ã) kk78=>iV L (à L) v75.1 v75.2 (fun u76 u77=>kk78 (u76,u77)) k0) ((0:Int),(0:Int))=k0 (Kw L):=by
 refine đ (fun x:Int×Int=>∃i:Nat,i≤L.length∧x=(Kw (L.take i),(i:Int))) (fun x=>L.length-x.2.toNat) ?_ ⟨0,by omega,rfl⟩;rintro x ⟨i,hi,rfl⟩;have hlen:=hL.len;rcases df i L.length with h|h
 ·have hl:L[i]?=some L[i]:=cF h;refine .inr ⟨(Kw (L.take (i+1)),(i:Int)+1),⟨i+1,h,by simp⟩,by simp; omega,fun kn=>?_⟩
  try dsimp only
  unfold iV
  have hb:∀j,j≤L.length→-(400*4503599627370496)≤Kw (L.take j):=by
   intro j hj;have h1:=XY (L:=L.take j) (fun l hl=>(hL.most l (fU hl)).1) hL.m0;have h2:((L.take j).length:Int)*M≤400*4503599627370496:=fK (by rw[cZ]; omega) hL.m1 hL.m0 (by omega);omega
  have h1:=hb i hi;have h2:=hb (i+1) h;have h3:=aiy (L.take i);rw[UX hl] at h2;rw[Õ h,È hl,imin0,Ð (by omega) (by omega),Î h (by omega),UX hl]
 ·refine .inl fun kn=>?_
  have:i=L.length:=by omega
  subst this
  try dsimp only
  unfold iV;rw[â,List.take_length]
def acT {x:List Int} (hx:x.length=N) (hN:N≤1000) {r:Option ρ} (k0:(Val (.pair (.slice .bool) (.slice tI)))→Option ρ)
 (hK:∀(w:List Bool) (q:List Int),w.length=N→q.Nodup→(∀v∈q,0≤v∧v<N)→(∀v:Int,0≤v→v<N→(wv w v=true↔v∈q))→(∀v:Int,0≤v→v<N→(v∈q↔gv x v≠ŵ))→k0 (w,q)=r) :
 Í (fun(v70:(Val (.pair tI (.pair (.slice .bool) (.slice tI))))) kk74=>ū (N:Int) x v70.1 v70.2.1 v70.2.2 (fun u71 u72 u73=>kk74 (u71,u72,u73)) k0) ((0:Int),(List.replicate N false),([]:List Int))=r:=by
 refine đ (fun s:Int×List Bool×List Int=>∃i:Nat,i≤N∧s.1=i∧s.2.1.length=N∧s.2.2.Nodup∧s.2.2.length≤i∧(∀v∈s.2.2,0≤v∧v<i)∧(∀v:Int,0≤v→v<N→(wv s.2.1 v=true↔v∈s.2.2))∧(∀v:Int,0≤v→v<i→(v∈s.2.2↔gv x v≠ŵ))) (fun s=>N-s.1.toNat) ?_
  ⟨0,by omega,rfl,by simp,by simp,by simp,by simp,fun v h0 h1=>?_,fun v h0 h1=>by omega⟩
 ·rintro⟨s,w,q⟩ ⟨i,hi,h1,h2,h3,h4,h5,h6,h7⟩;simp only at h1 h2 h3 h4 h5 h6 h7;subst h1;rcases df i N with h|h
  ·refine .inr ?_
   have hix:i<x.length:=by omega
   have hiw:i<w.length:=by omega
   have hnq:((i:Int))∉q:=fun hc=>by have:=(h5 _ hc).2; omega
   by_cases hf:gv x i=ŵ
   ·refine⟨((i:Int)+1,w,q),⟨i+1,h,by simp,h2,h3,by simp only; omega,fun v hv=>⟨(h5 v hv).1,by have:=(h5 v hv).2; push_cast; omega⟩,h6,fun v h0 h1=>?_⟩,by simp; omega,fun kn=>?_⟩
    ·by_cases hv:v=i
     ·subst hv; simp[hf,hnq]
     ·exact h7 v h0 (by push_cast at h1; omega)
    ·try dsimp only
     unfold ū
     have e:ilt (i:Int) (N:Int)=true:=by simp[ilt,h]
     rw[Ü e,Ε hix,mg (by simpa using hix)]
     have e2:ine (gv x i) 1152921504606846976=false:=by simp[ine,hf]
     rw[Ò e2,Î h (by omega)]
   ·refine⟨((i:Int)+1,w.set i true,q++[(i:Int)]),⟨i+1,h,by simp,by simpa using h2,?_,by simp; omega,fun v hv=>?_,fun v h0 h1=>?_,fun v h0 h1=>?_⟩,by simp; omega,fun kn=>?_⟩
    ·rw[List.nodup_append];exact⟨h3,by simp,fun a ha b hb=>by simp at hb; subst hb; exact fun e=>hnq (e▸ha)⟩
    ·rcases cM.1 hv with hv|hv
     ·exact⟨(h5 v hv).1,by have:=(h5 v hv).2; push_cast; omega⟩
     ·simp at hv; subst hv; push_cast; omega
    ·have:=Zp (w:=w) (u:=(i:Int)) (by omega) h0 (by simpa using hiw) true;rw[cT] at this;show wv (w.set i true) v=true↔v∈q++[(i:Int)];rw[this]
     by_cases hv:v=i
     ·simp[hv]
     ·simp only[hv,if_false,cM,cP,or_false];exact h6 v h0 h1
    ·show v∈q++[(i:Int)]↔_
     by_cases hv:v=i
     ·subst hv; simp[hf]
     ·simp only[cM,cP,hv,or_false];exact h7 v h0 (by push_cast at h1; omega)
    ·try dsimp only
     unfold ū
     have e:ilt (i:Int) (N:Int)=true:=by simp[ilt,h]
     rw[Ü e,Ε hix,mg (by simpa using hix)]
     have e2:ine (gv x i) 1152921504606846976=true:=by simp[ine,hf]
     rw[Ü e2,Ú (by simp only[dI]; omega),Am.iff_true,Ε hiw,Rx (by simpa using hiw),Î h (by omega),cT]
  ·refine .inl fun kn=>?_
   have:i=N:=by omega
   subst this
   try dsimp only
   unfold ū
   have e:ilt (i:Int) (i:Int)=false:=by simp[ilt]
   rw[Ò e];exact hK w q h2 h3 h5 h6 h7
 ·have:wv (List.replicate N false) v=false:=by
   unfold wv;rw[List.getElem?_replicate]
   split<;>rfl
  simp[this]
def PQ (hL:jm L N M) (hN:1≤N) {S:Int→Bool} (hS:∀v,S v=true→0≤v∧v<N) {w:List Bool} {q:List Int} (hw:w.length=N) (hq:q.Nodup) (hr:∀v∈q,0≤v∧v<N) (hwq:∀v:Int,0≤v→v<N→(wv w v=true↔v∈q)) (hqs:∀v:Int,0≤v→v<N→(v∈q↔gv (wX S N) v≠ŵ)) :
 acn L (fun v=>S v=true) N M 0 q [] (wX S N) w (List.replicate N 0) q:=by
 have ht:∀v:Int,0≤v→v<N→gv (List.replicate N (0:Int)) v=0:=by
  intro v h0 h1;unfold gv;rw[List.getElem?_replicate]
  split<;>rfl
 have hg:∀v:Int,0≤v→v<N→(v∈q↔S v=true):=by
  intro v h0 h1;rw[hqs v h0 h1,jG S h0 h1]
  cases S v<;>simp[ŵ]
 have hM:=hL.m0;refine⟨by simp,ď S N,hw,by simp,hq,hr,hwq,fun v h0 h1=>?_,fun v hv=>?_,fun vs v d hw hl=>?_,fun vs u d hw hl hu v m hlk=>?_,fun u h0 h1 hu hf v m hlk=>?_,fun v h0 h1 hf=>?_,fun v h0 h1=>?_,fun v hv=>?_,fun v hv=>?_,by omega,fun _=>rfl⟩
 ·rw[ht v h0 h1]; omega
 ·have:=hr v hv;rw[ht v this.1 this.2]; omega
 ·cases hw with
  |nil hs =>
   have:=hS v hs;rw[jG S this.1 this.2,if_pos hs]; omega
  |step=>simp at hl
 ·cases hw with
  |nil hs =>
   have:=hS u hs;exact(hu ((hg u this.1 this.2).2 hs)).elim
  |step=>simp at hl
 ·rw[jG S h0 h1] at hf;have:=mt (hg u h0 h1).2 hu;rw[if_neg this] at hf;exact(hf rfl).elim
 ·rw[jG S h0 h1] at hf ⊢
  split at hf
  ·rename_i hs;rw[if_pos hs]; exact⟨[],.nil hs⟩
  ·exact(hf rfl).elim
 ·rw[jG S h0 h1]
  split
  ·exact .inr (by simp[hM])
  ·exact .inl rfl
 ·have h1:=hr v hv;rw[jG S h1.1 h1.2,if_pos ((hg v h1.1 h1.2).1 hv)]; simp
 ·have h1:=hr v hv;rw[jG S h1.1 h1.2,if_pos ((hg v h1.1 h1.2).1 hv)]; simp[ŵ]
structure Bad (L:List Lk) (N:Nat) (x:List Int) (w:List Bool) (t q:List Int):Prop where
 lx:x.length=N
 lw:w.length=N
 lt:t.length=N
 nodup:q.Nodup
 rng:∀v∈q,0≤v∧v<N
 waits:∀v:Int,0≤v→v<N→(wv w v=true↔v∈q)
 t0:∀v:Int,0≤v→v<N→0≤gv t v∧gv t v≤(N:Int)+1
 bd:∀v:Int,0≤v→v<N→-2305843009213693952≤gv x v∧gv x v≤0
 rel:∀u:Int,0≤u→u<N→u∉q→∀v m,(u,v,m)∈L→gv x v≤gv x u+m
def afS {r:Option ρ} {x:List Int} {w:List Bool} {t q:List Int} (hL:jm L N M) (hp:¬∃p,Pot L p) (k0:(Val (.pair .bool (.pair (.slice tI) (.pair (.slice .bool) (.pair (.slice tI) (.slice tI))))))→Option ρ)
 (hK:∀x w t q,k0 (false,x,w,t,q)=r) (h:Bad L N x w t q) :
 Í (fun(v64:(Val (.pair (.slice tI) (.pair (.slice .bool) (.pair (.slice tI) (.slice tI)))))) kk69=>ļ [] (Kw L) (N:Int) L v64.1 v64.2.1 v64.2.2.1 v64.2.2.2 (fun u65 u66 u67 u68=>kk69 (u65,u66,u67,u68)) k0) (x,w,t,q)=r:=by
 refine đ (fun s:List Int×List Bool×List Int×List Int=>Bad L N s.1 s.2.1 s.2.2.1 s.2.2.2) (fun s=>Tj N s.2.2.1) ?_ h;rintro⟨x,w,t,q⟩ h;dsimp only at h ⊢;have hN:=hL.nodes
 cases q with
 |nil =>
  exfalso;exact hp ⟨gv x,fun u v m hl=>h.rel u (hL.inr _ hl).1.1 (hL.inr _ hl).1.2 (by simp) v m hl⟩
 |cons n rest =>
  have hnr:=h.rng n (by simp);have hb:=h.bd n hnr.1 hnr.2;have ht:=h.t0 n hnr.1 hnr.2
  have hrl:rest.length≤1000000:=by
   have:=ZO N (n::rest) h.nodup h.rng;simp only[cW] at this;omega
  have hout:=fun(kn:List Int→List Bool→List Int→List Int→Option ρ)=>ZZ (ρ:=ρ) hL (least:=Kw L) hnr h.lx h.lw h.lt hrl ⟨hb.1,by omega⟩ ⟨ht.1,by omega⟩ kn k0
  by_cases hlt:(N:Int)+1<gv t n+1
  ·exact .inl fun kn=>by rw[hout,if_pos hlt]; exact hK _ _ _ _
  ·have hw':(w.set n.toNat false).length=N:=by rw[fh]; exact h.lw
   cases hr:sf n (Kw L) L x (w.set n.toNat false) rest with
   |mk b r' =>
   obtain⟨x',w',q'⟩:=r'
   cases b with
   |false=>exact .inl fun kn=>by rw[hout,if_neg hlt,hr]; exact hK _ _ _ _
   |true =>
    have hnd:=h.nodup;rw[eT] at hnd
    have htl:n.toNat<t.length:=by have:=h.lt; omega
    have ha:=mP hnr hL.inr hL.noloop h.lx hw' hnd.2 (fun v h0 h1=>by
     rw[Zp hnr.1 h0 (by have:=h.lw; omega)]
     by_cases hv:v=n
     ·subst hv; simp[hnd.1]
     ·rw[if_neg hv,h.waits v h0 h1]
      simp[hv]) hr
    obtain⟨l,hl,hlv⟩:=ha.new;refine .inr ⟨(x',w',t.set n.toNat (gv t n+1),q'),⟨ha.lx,ha.lw,by rw[fh]; exact h.lt,ha.nodup,fun v hv=>?_,ha.waits,fun v h0 h1=>?_,fun v h0 h1=>?_,fun u h0 h1 hu v m hlk=>?_⟩,Wj htl (by omega),fun kn=>by rw[hout,if_neg hlt,hr]⟩
    ·dsimp only at hv;rw[hl] at hv;rcases List.mem_append.1 hv with hv|hv
     ·exact h.rng v (by simp[hv])
     ·exact(hlv v hv).1
    ·try dsimp only
     rw[uq hnr.1 h0 htl];have:=h.t0 v h0 h1
     split<;>omega
    ·try dsimp only
     have h2:=h.bd v h0 h1;rcases ha.chg v h0 h1 with g|⟨_,g2,m,g3,g4,g5⟩
     ·rw[g]; exact h2
     ·have h3:=XY (L:=L) (fun l hl=>(hL.most l hl).1) hL.m0;have h4:(L.length:Int)*M≤400*4503599627370496:=fK (by have:=hL.len; omega) hL.m1 hL.m0 (by omega);omega
    ·dsimp only at hu ⊢;have hvr:=(hL.inr _ hlk).2
     have heq:gv x' u=gv x u:=by
      rcases ha.chg u h0 h1 with g|⟨g,_⟩
      ·exact g
      ·exact(hu g).elim
     by_cases hun:u=n
     ·subst hun;have h1:=ha.link v m hlk;omega
     ·have hur:u∉n::rest:=by
       intro hc;rcases cN.1 hc with e|hc
       ·exact hun e
       ·exact hu (by rw[hl]; exact dB _ hc)
      have h2:=h.rel u h0 h1 hur v m hlk;have:=ha.le v hvr.1 hvr.2;omega
end
def acm (N:Nat) (v:Int):Bool:=decide (0≤v)&&decide (v<(N:Int))
def afF (s:Int) (v:Int):Bool:=v==s
def Um (N:Nat):wX (acm N) N=List.replicate N 0:=by
 refine aan (by simp[ď]) fun v h0 h1=>?_;rw[ď] at h1;rw[jG _ h0 h1]
 have:acm N v=true:=by simp[acm,h0,h1]
 rw[if_pos this];unfold gv;rw[List.getElem?_replicate]
 split<;>rfl
def jH (L:List Lk) (N:Nat):List Int:=mW L N (wX (acm N) N)
def jo (L:List Lk) (N:Nat):Bool:=decide (JH L (jH L N)=jH L N)
def qi (L:List Lk) (N:Nat) (s:Int):List Int:=mW L N (wX (afF s) N)
section
variable {L:List Lk} {N:Nat} {M:Int}
def agd (hL:jm L N M) (hN:N≤200):N*M<ŵ:=by
 have:(N:Int)*M≤200*4503599627370496:=Int.mul_le_mul (by omega) hL.m1 hL.m0 (by omega);unfold ŵ;omega
def Hl {p:Int→Int} (hL:jm L N M) (hN:N≤200) (hp:Pot L p):acp L (fun v=>acm N v=true) N (gv (jH L N)) :=
 Lh hp hL.inr (fun v h=>by simpa[acm] using h) (fun l hl=>(hL.most l hl).2) hL.m0 (agd hL hN) N (by omega)
def Em {p:Int→Int} (hL:jm L N M) (hN:N≤200) (hp:Pot L p) {s:Int} (hs:0≤s∧s<N):acp L (fun v=>afF s v=true) N (gv (qi L N s)) :=
 Lh hp hL.inr (fun v h=>by simp[afF] at h; subst h; exact hs) (fun l hl=>(hL.most l hl).2) hL.m0 (agd hL hN) N (by omega)
def UD:∀{L:List Lk} {x:List Int},(∀u v m,(u,v,m)∈L→gv x u<ŵ→gv x v≤gv x u+m)→JH L x=x
 |[],x,_=>rfl
 |l::t,x,h=>by
  have h1:oc x l=x:=by
   unfold oc
   split
   ·rename_i hc;have:=h l.1 l.2.1 l.2.2 (by simp) hc.1;omega
   ·rfl
  show JH t (oc x l)=x;rw[h1];exact UD fun u v m hm=>h u v m (by simp[hm])
def pe (hL:jm L N M) (hN:N≤200):jo L N=true↔∃p,Pot L p:=by
 unfold jo;rw[decide_eq_true_eq]
 have hle:∀v:Int,0≤v→v<N→gv (jH L N) v≤0:=by
  intro v h0 h1;have:=EI hL.inr N (ď (acm N) N) v h0;rw[jG _ h0 h1,if_pos (by simp[acm,h0,h1])] at this;exact this
 constructor
 ·intro h;refine⟨gv (jH L N),fun u v m hl=>?_⟩;have hr:=(hL.inr _ hl).1;have:=Hv hL.inr (x:=jH L N) (by unfold jH; rw[ũ,ď]) u v m hl (by have:=hle u hr.1 hr.2; unfold ŵ; omega)
  rwa [h] at this
 ·rintro⟨p,hp⟩;have hd:=Hl hL hN hp;exact UD fun u v m hl hf=>hd.pot hL.inr hl (by omega)
end
section
variable {ρ:Type} {L:List Lk} {N:Nat} {M:Int}
def Gy (hN:N≤1000) (x:Option ρ):è ((ile (0:Int) (N:Int))&&(ñ (Int.toNat (N:Int)))) x=x:=by
 rw[cT,Ú (by omega)]
 have:((ile (0:Int) (N:Int))&&true)=true:=by simp[ile]
 rw[this,Am.iff_true]
def XL (hL:jm L N M) (h1:1≤N) (hN:N≤200) (k0:(Val (.pair .bool (.pair (.slice tI) (.pair (.slice .bool) (.pair (.slice tI) (.slice tI))))))→Option ρ) {rT rF:Option ρ}
 (hT:jo L N=true→∀w t q,k0 (true,jH L N,w,t,q)=rT) (hF:∀x w t q,k0 (false,x,w,t,q)=rF) :
 (Í (fun(v70:(Val (.pair tI (.pair (.slice .bool) (.slice tI))))) kk74=>ū (N:Int) (List.replicate N (0:Int)) v70.1 v70.2.1 v70.2.2 (fun u71 u72 u73=>kk74 (u71,u72,u73)) (fun z9=>Í (fun(v64:(Val (.pair (.slice tI) (.pair (.slice .bool) (.pair (.slice tI) (.slice tI)))))) kk69=>ļ [] (Kw L) (N:Int) L v64.1 v64.2.1 v64.2.2.1 v64.2.2.2 (fun u65 u66 u67 u68=>kk69 (u65,u66,u67,u68)) k0) ((List.replicate N (0:Int)),z9.1,(List.replicate N (0:Int)),z9.2))) ((0:Int),(List.replicate N false),([]:List Int)))=if jo L N then rT else rF:=by
 refine acT (by simp) (by omega) _ fun w q hw hq hr hwq hqs=>?_
 try dsimp only
 have hS:∀v,acm N v=true→0≤v∧v<N:=fun v h=>by simpa[acm] using h
 by_cases ho:jo L N=true
 ·rw[if_pos ho];obtain⟨p,hp⟩:=(pe hL hN).1 ho;have hs:=PQ hL h1 hS hw hq hr hwq (fun v a b=>by rw[Um]; exact hqs v a b);rw[Um] at hs;refine Un hL (agd hL hN) hp hS k0 (fun x w t q hx hd=>?_) hs
  have:x=jH L N:=by
   refine aan (by rw[hx]; unfold jH; rw[ũ,ď]) fun v a b=>?_;exact hd.uniq (Hl hL hN hp) a (by omega)
  rw[this]; exact hT ho w t q
 ·rw[if_neg ho];refine afS hL (fun hp=>ho ((pe hL hN).2 hp)) k0 hF ?_
  have hg:∀v,gv (List.replicate N (0:Int)) v=0:=by
   intro v;unfold gv;rw[List.getElem?_replicate]
   split<;>rfl
  refine⟨by simp,hw,by simp,hq,hr,hwq,fun v a b=>?_,fun v a b=>?_,fun u a b hu v m hl=>?_⟩
  ·rw[hg]; omega
  ·rw[hg]; omega
  ·exact(hu ((hqs u a b).2 (by rw[hg]; unfold ŵ; omega))).elim
end
def shift_ok {ρ:Type} {x:List Int} (f:Int) (hx:x.length≤1000) (hf : -2305843009213693952≤f∧f≤2305843009213693952) (hb:∀a∈x,-2305843009213693952≤a∧a≤2305843009213693952) (k0:List Int→Option ρ) :
 Í (fun(v60:(Val (.pair tI (.slice tI)))) kk63=>jY f (à x) v60.1 v60.2 (fun u61 u62=>kk63 (u61,u62)) k0) ((0:Int),x)=k0 (x.map fun a=>a-f):=by
 refine ĵ x (fun i=>(x.take i).map (fun a=>a-f)++x.drop i) _ (by simp) (fun i a hi ha kn=>?_) (fun kn=>?_)
 ·try dsimp only
  unfold jY
  have hlen:((x.take i).map (fun a=>a-f)++x.drop i).length=x.length:=by simp; omega
  have hget:((x.take i).map (fun a=>a-f)++x.drop i)[i]?=some a:=by
   rw[fQ (by simp; omega)];simp only[dz,cZ,eo];rw[←ha]; congr 1; omega
  have hi':i<((x.take i).map (fun a=>a-f)++x.drop i).length:=by omega
  have ha':=hb a (cO ha);rw[Õ hi,Ε hi',ġ hget,Ð (by omega) (by omega),Ε hi',ġ hget,Î hi (by omega),cT,take_succ ha];congr 2;rw[dF hi,eJ,cR,gq _ _ (by simp; omega)]
  have:i-(List.map (fun a=>a-f) (List.take i x)).length=0:=by simp; omega
  rw[this]
  have h1:x[i]=a:=by rw[cF hi] at ha; simpa using ha
  simp[h1]
 ·try dsimp only
  unfold jY;rw[â];simp
section
variable {L:List Lk} {N:Nat} {M:Int}
def afU (hL:jm L N M) (hN:N≤200) (ho:jo L N=true):∀a∈jH L N,-2305843009213693952≤a∧a≤0:=by
 obtain⟨p,hp⟩:=(pe hL hN).1 ho;have hd:=Hl hL hN hp;intro a ha;obtain⟨i,hi,rfl⟩:=cS.1 ha
 have hlen:(jH L N).length=N:=by unfold jH; rw[ũ,ď]
 have h0:gv (jH L N) i=(jH L N)[i]:=by unfold gv; simp[hi]
 have hle:=EI hL.inr N (ď (acm N) N) (i:Int) (by omega);rw[jG _ (by omega) (by omega),if_pos (by simp[acm]; omega)] at hle;have hle':gv (jH L N) i≤0:=hle;obtain⟨vs,hw⟩:=hd.att i (by omega) (by omega) (by unfold ŵ; omega);have h1:=hw.low' hp;have h3:=XY (L:=L) (fun l hl=>(hL.most l hl).1) hL.m0;have h4:(L.length:Int)*M≤400*4503599627370496:=Int.mul_le_mul (by have:=hL.len; omega) hL.m1 hL.m0 (by omega);omega
def solP (L:List Lk) (N:Nat):List Int:=(jH L N).map fun a=>a-gv (jH L N) 0
def wY (hL:jm L N M) (h1:1≤N) (hN:N≤200):mR ((N:Int),L) []=some (if jo L N then(solP L N,true) else([],false)):=by
 unfold mR Aj
 try dsimp only
 rw[Gy (by omega),Gy (by omega),Gy (by omega),cT];refine eW (aae hL _) ?_;refine eW (XL hL h1 hN _ (rT:=some (solP L N,true)) (rF:=some ([],false)) (fun ho w t q=>?_) (fun x w t q=>?_)) ?_
 ·try dsimp only
  have hlen:(jH L N).length=N:=by unfold jH; rw[ũ,ď]
  have hb:=afU hL hN ho;have h0:ilt (0:Int) (ú (jH L N))=true:=decide_eq_true (show(0:Int)<((jH L N).length:Int) by omega);have hg:(jH L N)[0]?=some (gv (jH L N) 0):=aam (v:=0) (show 0<_ by omega);have hm:=hb _ (cO hg);rw[show(!true)=false from rfl,ë,ÿ h0,i9 hg];exact shift_ok _ (by omega) ⟨hm.1,by omega⟩ (fun a ha=>⟨(hb a ha).1,by have:=(hb a ha).2; omega⟩) _
 ·rfl
 ·cases jo L N<;>rfl
structure kh (L:List Lk) (N:Nat):Prop where
 n1:1≤N
 n60:N≤60
 len:L.length≤300
 inr:InR L N
 noloop:∀l∈L,l.1≠l.2.1
 most:∀l∈L,-4503599627370496≤l.2.2∧l.2.2≤4503599627370496
def kh.links (h:kh L N):jm L N 4503599627370496 :=
 ⟨h.inr,h.noloop,h.most,by have:=h.len; omega,by have:=h.n60; omega,by omega,by omega⟩
def XX (n:Int) (L:List Lk) (v:Int):BJ (n,L) v=some (decide (0≤v)&&decide (v<n)):=by
 unfold BJ Sc ige
 by_cases h:0≤v
 ·have:decide (v≥0)=true:=by simpa using h
  rw[Ü this]; simp[h]
 ·have:decide (v≥0)=false:=by simpa using h
  rw[Ò this]; simp[h]
def qP (h:kh L N):wN ((N:Int),L)=some (0,-1):=by
 have h1:=h.n1;have h2:=h.n60;have h3:=h.len;unfold wN MC
 try dsimp only
 rw[Ò (by simp[ilt]; omega),Ò (by simp[igt]; omega),Ò (by rw[Ý]; simp[igt]; omega)];refine eW (j7 L (fun _=>false) (fun i=>some (1,i)) (some (0,-1)) (fun i l hi hl kn=>?_) (fun kn=>?_)) ?_
 ·try dsimp only
  unfold tV;have hm:=List.mem_of_getElem? hl;have a:=h.inr l hm;have b:=h.noloop l hm;have c:=h.most l hm
  have e1:(decide (0≤l.1)&&decide (l.1<(N:Int)))=true:=by simp[a.1.1,a.1.2]
  have e2:(decide (0≤l.2.1)&&decide (l.2.1<(N:Int)))=true:=by simp[a.2.1,a.2.2]
  rw[Õ hi,È hl,XX,À,e1,XX,À,e2];simp only[dD,ë,cX,if_false];rw[Ò (by simp[ieq,b]),Ò (by simp[ilt]; omega),Ò (by simp[igt]; omega),Î hi (by omega)]
 ·try dsimp only
  unfold tV;rw[â]
 ·rw[dE.2 (by simp)]
def vq {ρ:Type} {x:List Int} {v:Int} (h0:0≤v) (h:v.toNat<x.length) (f:Int→Option ρ):ą x v f=f (gv x v):=by
 obtain⟨i,rfl⟩:=Int.eq_ofNat_of_zero_le h0;exact È (aam h) f
end
section
variable {b:ò}
def yr (b:ò) (g:ï):(é b g).Pairwise (·<·):=XG _
def Wy (h:Ő b) {g:ï} (hg:g∈b.2.1):∃t,é b g=g.2.1::t:=by
 have h1:=yr b g;have h2:=uA (b:=b) g;have h3:∀d∈é b g,g.2.1≤d:=fun d hd=>(h.day hg hd).1
 cases hd:é b g with
 |nil=>rw[hd] at h2; cases h2
 |cons a t =>
  rw[hd] at h1 h2 h3;rw[dA] at h1;rcases cN.1 h2 with e|e
  ·exact⟨t,by rw[e]⟩
  ·have:=h1.1 _ e;have:=h3 a (by simp);omega
def off (b:ò) (i:Nat):Nat:=((b.2.1.take i).flatMap fun g=>(é b g).map fun d=>((g.1,d):Int×Int)).length
def Dw {i:Nat} {g:ï} (hg:b.2.1[i]?=some g):Ñ b=((b.2.1.take i).flatMap fun g=>(é b g).map fun d=>((g.1,d):Int×Int))++(((é b g).map fun d=>((g.1,d):Int×Int))++((b.2.1.drop (i+1)).flatMap fun g=>(é b g).map fun d=>((g.1,d):Int×Int))):=by
 obtain⟨hi,rfl⟩:=cI.1 hg
 have h1:b.2.1=b.2.1.take i++(b.2.1[i]::b.2.1.drop (i+1)):=by
  rw[←dF hi,dQ]
 unfold Ñ
 conv=>lhs; rw[h1]
 rw[fG,dG]
def Rw (h:Ő b) {i:Nat} {g:ï} (hg:b.2.1[i]?=some g) {k:Nat} {d:Int} (hk:(é b g)[k]?=some d):la (Ñ b) g.1 d=some (off b i+k):=by
 obtain⟨hi,hgi⟩:=List.getElem?_eq_some_iff.1 hg;obtain⟨hkl,hkd⟩:=List.getElem?_eq_some_iff.1 hk;unfold la;rw[Dw hg,List.findIdx?_append,List.findIdx?_append]
 have h1:List.findIdx? (fun n:Int×Int=>decide (g.1=n.1)&&decide (d=n.2)) ((b.2.1.take i).flatMap fun g=>(é b g).map fun d=>((g.1,d):Int×Int))=none:=by
  rw[dE];intro x hx;obtain⟨g',hg',hx⟩:=dv.1 hx;obtain⟨d',_,rfl⟩:=dt.1 hx;obtain⟨j,hj,rfl⟩:=cS.1 hg';rw[cZ] at hj;rw[fg];have:=(dl.1 h.ids) j i (by omega) hi (by omega);rw[hgi] at this;simp only[gT,decide_eq_false_iff_not];exact .inl (by omega)
 have h2:List.findIdx? (fun n:Int×Int=>decide (g.1=n.1)&&decide (d=n.2)) ((é b g).map fun d=>((g.1,d):Int×Int))=some k:=by
  rw[dg];refine⟨by simpa using hkl,by simp[hkd],fun j hj=>?_⟩;have:=(dl.1 (yr b g)) j k (by omega) hkl hj;rw[hkd] at this;simp only[List.getElem_map,cH,decide_eq_true_eq,not_and];intro _;omega
 rw[h1,h2];simp only[Option.map_some,Option.some_or,Option.none_or];unfold off;congr 1;omega
def agb {i:Nat} {g:ï} (hg:b.2.1[i]?=some g) {k:Nat} {d:Int} (hk:(é b g)[k]?=some d):(Ñ b)[off b i+k]?=some (g.1,d):=by
 obtain⟨hkl,hkd⟩:=List.getElem?_eq_some_iff.1 hk;rw[Dw hg,List.getElem?_append_right (by unfold off; omega),List.getElem?_append_left (by unfold off; simp; omega)];unfold off;simp[hk]
def ag7 (h:Ő b) {i:Nat} {g:ï} (hg:b.2.1[i]?=some g):atP (Ñ b) [g.1] g.2.1=(off b i:Int)+1:=by
 obtain⟨t,ht⟩:=Wy h (List.mem_of_getElem? hg);have:=Rw h hg (k:=0) (d:=g.2.1) (by rw[ht]; rfl);unfold atP;simp only[this];rfl
def aiv (h:Ő b) {i:Nat} {g:ï} (hg:b.2.1[i]?=some g):off b i+(é b g).length≤(Ñ b).length:=by
 rw[Dw hg];unfold off;simp only[List.length_append,List.length_map];omega
def af9 {i:Nat} {g:ï} (hg:b.2.1[i]?=some g):off b (i+1)=off b i+(é b g).length:=by
 unfold off;rw[take_succ hg,List.flatMap_append];simp
def UV (h:Ő b) {c:Cmp} (hc:c∈b.2.2.2.2.1) {x:Int} (hx:(x∈c.2.2.1∧x∉c.2.2.2.1)∨(x∈c.2.2.2.1∧x∉c.2.2.1)):∃j,la (Ñ b) x c.2.1=some j:=by
 have hm:x∈c.2.2.1++c.2.2.2.1:=by rw[cM]; exact hx.imp (·.1) (·.1)
 obtain⟨⟨g,hg,_⟩,_⟩:=h.pile hc hm;obtain⟨hgm,hgx⟩:=Š hg;obtain⟨i,hi,hgi⟩:=cS.1 hgm
 have hd:c.2.1∈é b g:=ε.2 (.inr (.inl ⟨c,hc,by
  rw[hgx];rcases hx with⟨h1,h2⟩|⟨h1,h2⟩
  ·have e1:c.2.2.1.contains x=true:=by simpa using h1
   have e2:c.2.2.2.1.contains x=false:=by simpa using h2
   rw[e1,e2]; simp
  ·have e1:c.2.2.2.1.contains x=true:=by simpa using h1
   have e2:c.2.2.1.contains x=false:=by simpa using h2
   rw[e1,e2]; simp,rfl⟩))
 obtain⟨k,hk,hkd⟩:=cS.1 hd;have:=Rw h (g:=g) (i:=i) (by rw[cF hi,hgi]) (k:=k) (d:=c.2.1) (by rw[cF hk,hkd]);rw[hgx] at this;exact⟨_,this⟩
inductive ach (b:ò) (p:List Int) (d:Int) (n:Int):Prop
 |none:p=[]→n=0→ach b p d n
 |one (x:Int) (j:Nat):p=[x]→la (Ñ b) x d=some j→n=(j:Int)+1→ach b p d n
def aeK (h:Ő b) {c:Cmp} (hc:c∈b.2.2.2.2.1):ach b (ù c.2.2.1 c.2.2.2.1) c.2.1 (cx b c):=by
 have hl:=(h.lefts hc).1
 cases hp:ù c.2.2.1 c.2.2.2.1 with
 |nil=>exact .none rfl (by unfold cx atP; rw[hp])
 |cons x t =>
  rw[hp] at hl
  have:t=[]:=by cases t with|nil=>rfl|cons=>simp at hl
  subst this;obtain⟨j,hj⟩:=UV h hc (x:=x) (.inl (lO.1 (by rw[hp]; simp)));exact .one x j rfl hj (by unfold cx atP; rw[hp]; simp only[hj])
def YZ (h:Ő b) {c:Cmp} (hc:c∈b.2.2.2.2.1):ach b (ù c.2.2.2.1 c.2.2.1) c.2.1 (cy b c):=by
 have hl:=(h.lefts hc).2.1
 cases hp:ù c.2.2.2.1 c.2.2.1 with
 |nil=>exact .none rfl (by unfold cy atP; rw[hp])
 |cons x t =>
  rw[hp] at hl
  have:t=[]:=by cases t with|nil=>rfl|cons=>simp at hl
  subst this;obtain⟨j,hj⟩:=UV h hc (x:=x) (.inr (lO.1 (by rw[hp]; simp)));exact .one x j rfl hj (by unfold cy atP; rw[hp]; simp only[hj])
def ach.rng {p:List Int} {d n:Int} (h:ach b p d n):0≤n∧n<((Ñ b).length+1:Nat):=by
 rcases h with⟨_,h⟩|⟨x,j,_,h1,h2⟩
 ·omega
 ·have:=(mC h1).1;omega
def agR (h:Ő b) {c:Cmp} (hc:c∈b.2.2.2.2.1):cx b c≠cy b c:=by
 have hl:=(h.lefts hc).2.2;rcases aeK h hc with⟨h1,h2⟩|⟨x,j,h1,h2,h3⟩
 ·rcases YZ h hc with⟨g1,g2⟩|⟨y,k,g1,g2,g3⟩
  ·rw[h1,g1] at hl; simp at hl
  ·omega
 ·rcases YZ h hc with⟨g1,g2⟩|⟨y,k,g1,g2,g3⟩
  ·omega
  ·intro e
   have:j=k:=by omega
   subst this;have e1:=(mC h2).2;have e2:=(mC g2).2;rw[e1] at e2;simp only[Option.some.injEq,Prod.mk.injEq] at e2
   have m1:x∈ù c.2.2.1 c.2.2.2.1:=by rw[h1]; simp
   have m2:y∈ù c.2.2.2.1 c.2.2.1:=by rw[g1]; simp
   rw[e2.1] at m1;exact(lO.1 m1).2 (lO.1 m2).1
def adV (h:Ő b):(Τ b).length=2*(Ñ b).length+2*b.2.2.2.2.1.length:=by
 have h1:∀l:List ï,(∀g∈l,g∈b.2.1)→(l.flatMap (ŧ b)).length=2*(l.flatMap fun g=>(é b g).map fun d=>((g.1,d):Int×Int)).length:=by
  intro l
  induction l with
  |nil=>intro _; rfl
  |cons g t ih =>
   intro hm;have:=ih fun g hg=>hm g (by simp[hg]);have hp:=List.length_pos_of_mem (uA (b:=b) g);simp only[List.flatMap_cons,List.length_append,List.length_map,this];unfold ŧ;rw[List.length_append,rj _ _ (fun _=>rfl)];simp only[List.length_cons,List.length_nil];omega
 have h2:∀l:List Cmp,(l.flatMap (kd b)).length=2*l.length:=by
  intro l
  induction l with
  |nil=>rfl
  |cons c t ih =>
   simp only[dG,cJ,ih,kd,cW,dX];omega
 unfold Τ;rw[List.length_append,h1 _ fun _ h=>h,h2];rfl
def Œ (h:Ő b) {i:Nat} {g:ï} (hg:b.2.1[i]?=some g) {l:Lk}:l∈ŧ b g ↔
 l=(0,(off b i:Int)+1,g.2.2.1+g.2.2.2.1.2)∨l=((off b i:Int)+1,0,-(g.2.2.1+g.2.2.2.1.1)) ∨
 ∃(k:Nat) (d e:Int),(é b g)[k]?=some d∧(é b g)[k+1]?=some e∧(l=((off b i:Int)+k+1,(off b i:Int)+k+2,0)∨l=((off b i:Int)+k+2,(off b i:Int)+k+1,jF b g d e)):=by
 unfold ŧ;rw[ag7 h hg];simp only[List.mem_append,List.mem_cons,List.not_mem_nil,or_false,List.mem_flatMap,List.mem_range];constructor
 ·rintro((h1|h1)|⟨k,hk,h1⟩)
  ·exact .inl h1
  ·exact .inr (.inl h1)
  ·refine .inr (.inr ⟨k,(é b g)[k],(é b g)[k+1],cF (by omega),cF (by omega),?_⟩);rw[cF (show k<(é b g).length by omega),cF (show k+1<(é b g).length by omega)] at h1;simp only[gS] at h1
   have e1:(off b i:Int)+1+k=(off b i:Int)+k+1:=by omega
   have e2:(off b i:Int)+k+1+1=(off b i:Int)+k+2:=by omega
   rw[e1,e2] at h1;exact h1
 ·rintro(h1|h1|⟨k,d,e,hd,he,h1⟩)
  ·exact .inl (.inl h1)
  ·exact .inl (.inr h1)
  ·obtain⟨h2,rfl⟩:=cI.1 hd;obtain⟨h3,rfl⟩:=cI.1 he;refine .inr ⟨k,by omega,?_⟩;rw[hd,he];simp only[gS]
   have e1:(off b i:Int)+1+k=(off b i:Int)+k+1:=by omega
   have e2:(off b i:Int)+k+1+1=(off b i:Int)+k+2:=by omega
   rw[e1,e2];exact h1
def qW {l:Lk}:l∈Τ b↔(∃(i:Nat) (g:ï),b.2.1[i]?=some g∧l∈ŧ b g)∨∃c∈b.2.2.2.2.1,l=(cy b c,cx b c,(rl b c).2)∨l=(cx b c,cy b c,-(rl b c).1):=by
 unfold Τ;simp only[List.mem_append,List.mem_flatMap,kd,List.mem_cons,List.not_mem_nil,or_false];constructor
 ·rintro(⟨g,hg,h⟩|h)
  ·obtain⟨i,hi,rfl⟩:=cS.1 hg;exact .inl ⟨i,_,cF hi,h⟩
  ·exact .inr h
 ·rintro(⟨i,g,hg,h⟩|h)
  ·exact .inl ⟨g,cO hg,h⟩
  ·exact .inr h
def Ő.sys (h:Ő b):kh (Τ b) ((Ñ b).length+1):=by
 have hN:=h.nodes;have hL:=h.links
 have key:∀l∈Τ b,((0≤l.1∧l.1<((Ñ b).length+1:Nat))∧(0≤l.2.1∧l.2.1<((Ñ b).length+1:Nat)))∧l.1≠l.2.1∧(-4503599627370496≤l.2.2∧l.2.2≤4503599627370496):=by
  intro l hl;rcases qW.1 hl with⟨i,g,hg,hl⟩|⟨c,hc,hl⟩
  ·have hgm:=cO hg;have hr:=h.gaugeR hgm;have ho:=aiv h hg;have hp:=List.length_pos_of_mem (uA (b:=b) g);have r1:=hr.2.2.2.2.2.1;have r2:=hr.2.2.2.2.2.2.1;rcases(Œ h hg).1 hl with rfl|rfl|⟨k,d,e,hd,he,h1⟩
   ·dsimp only; omega
   ·dsimp only; omega
   ·obtain⟨h2,_⟩:=cI.1 he;have d1:=h.day hgm (cO hd);have lb:=se h hgm (t:=e) d1.2.1;rcases h1 with rfl|rfl
    ·dsimp only; omega
    ·dsimp only; omega
  ·have a:=(aeK h hc).rng;have b':=(YZ h hc).rng;have ne:=agR h hc;have sb:=K7 h hc;rcases hl with rfl|rfl
   ·dsimp only; omega
   ·dsimp only; omega
 exact⟨by omega,by omega,by rw[adV h]; omega,fun l hl=>(key l hl).1,fun l hl=>(key l hl).2.1,fun l hl=>(key l hl).2.2⟩
end
def Xv (b:ò) (id day:Int):Bool:=b.2.2.1.any fun u=>u.1==id&&u.2==day
def aeH (b:ò) (g:ï) (d:Int):Int:=match nY b g.1 d with|some l=>l.2.2|none=>if Xv b g.1 d then g.2.2.2.2.2 else 0
def adP (l:IX) (id:Int) {f t:Int} (hft:f≤t):(if l.1=id∧0<Ġ l f (t+1) then Ġ l f (t+1)*l.2.2 else 0)=(if l.1=id∧0<Ġ l f t then Ġ l f t*l.2.2 else 0)+(if l.1=id∧l.2.1.1≤t∧t≤l.2.1.2 then l.2.2 else 0):=by
 by_cases hid:l.1=id
 ·by_cases h1:l.2.1.1≤t∧t≤l.2.1.2
  ·have e:Ġ l f (t+1)=Ġ l f t+1:=by unfold Ġ; omega
   have p:0≤Ġ l f t:=by unfold Ġ; omega
   rw[e,if_pos ⟨hid,by omega⟩,if_pos (show l.1=id∧l.2.1.1≤t∧t≤l.2.1.2 from⟨hid,h1⟩),fu,gD]
   by_cases hp:0<Ġ l f t
   ·rw[if_pos ⟨hid,hp⟩]
   ·rw[if_neg (fun h=>hp h.2)]
    have:Ġ l f t=0:=by omega
    rw[this];omega
  ·rw[if_neg (show ¬(l.1=id∧l.2.1.1≤t∧t≤l.2.1.2) from fun h=>h1 h.2),gy]
   by_cases hlo:l.2.1.1≤t
   ·have e:Ġ l f (t+1)=Ġ l f t:=by unfold Ġ; omega
    rw[e]
   ·have p1:¬0<Ġ l f (t+1):=by unfold Ġ; omega
    have p2:¬0<Ġ l f t:=by unfold Ġ; omega
    rw[if_neg (fun h=>p1 h.2),if_neg (fun h=>p2 h.2)]
 ·rw[if_neg (fun h=>hid h.1),if_neg (fun h=>hid h.1),if_neg (fun h=>hid h.1)];rfl
def Qs (id:Int) {f t:Int} (hft:f≤t):∀{x:List IX},x.Pairwise (fun a c=>¬(a.1=c.1∧a.2.1.1≤c.2.1.2∧c.2.1.1≤a.2.1.2)) →
 ň id f (t+1) x=ň id f t x+(match x.find? (fun l=>l.1==id&&inP t l.2.1.1 l.2.1.2) with|some l=>l.2.2|none=>0)
 |[],_=>rfl
 |l::r,hp=>by
  rw[dA] at hp;have ih:=Qs id hft hp.2;simp only[ň];rw[ih,adP l id hft,fw]
  by_cases hm:l.1=id∧l.2.1.1≤t∧t≤l.2.1.2
  ·have e:(l.1==id&&inP t l.2.1.1 l.2.1.2)=true:=by simp[inP,hm.1,hm.2.1,hm.2.2]
   have hn:r.find? (fun l=>l.1==id&&inP t l.2.1.1 l.2.1.2)=none:=by
    rw[dU];intro c hc hcm;simp only[inP,cH,beq_iff_eq,decide_eq_true_eq] at hcm;exact hp.1 c hc ⟨by rw[hm.1,hcm.1],by omega,by omega⟩
   rw[if_pos hm,e,hn];simp only;omega
  ·have e:(l.1==id&&inP t l.2.1.1 l.2.1.2)=false:=by
    rw[eR];intro h;simp only[inP,cH,beq_iff_eq,decide_eq_true_eq] at h;exact hm h
   rw[if_neg hm,e];simp only;omega
section
variable {b:ò}
def Ő.apart (h:Ő b):b.2.2.2.1.Pairwise (fun a c=>¬(a.1=c.1∧a.2.1.1≤c.2.1.2∧c.2.1.1≤a.2.1.2)):=by
 rw[List.pairwise_iff_getElem];intro i j hi hj hij ⟨h1,h2,h3⟩;have hz:=h.loans j _ (List.getElem?_eq_getElem hj);unfold Tg at hz
 have hany:(b.2.2.2.1.take j).any (fun x=>x.1==b.2.2.2.1[j].1&&(decide (x.2.1.1≤b.2.2.2.1[j].2.1.2)&&decide (b.2.2.2.1[j].2.1.1≤x.2.1.2)))=true:=by
  rw[du];exact⟨b.2.2.2.1[i],cS.2 ⟨i,by rw[cZ]; omega,by rw[fg]⟩,by simp[h1,h2,h3]⟩
 rw[hany] at hz
 (repeat' split at hz)<;>first|omega|simp_all
def Ő.notUsed (h:Ő b) {id d:Int} {l:IX} (hl:nY b id d=some l):Xv b id d=false:=by
 have hm:=ft hl;have hp:=fP hl;simp only[inP,cH,beq_iff_eq,decide_eq_true_eq] at hp;obtain⟨j,hj,rfl⟩:=cS.1 hm;have hz:=h.loans j _ (cF hj);rw[eR];intro hu;obtain⟨u,hu,hue⟩:=du.1 hu;simp only[cH,beq_iff_eq] at hue
 have hany:b.2.2.1.any (fun u=>u.1==b.2.2.2.1[j].1&&inP u.2 b.2.2.2.1[j].2.1.1 b.2.2.2.1[j].2.1.2)=true:=by
  rw[du];exact⟨u,hu,by simp only[inP,cH,beq_iff_eq,decide_eq_true_eq]; exact⟨by rw[hue.1,hp.1],by omega,by omega⟩⟩
 unfold Tg at hz;rw[hany] at hz
 (repeat' split at hz)<;>first|omega|simp_all
def T9 {id f t:Int} (hft:f≤t):Xj (i6 b id f (t+1))=Xj (i6 b id f t)++if Xv b id t then[t] else[]:=by
 have hm:∀t x,x∈i6 b id f t↔Xv b id x=true∧f≤x∧x<t:=by
  intro t x;unfold i6 Xv;simp only[List.mem_map,List.mem_filter,List.any_eq_true,inP,Bool.and_eq_true,beq_iff_eq,decide_eq_true_eq];constructor
  ·rintro⟨u,⟨h1,h2,h3,h4⟩,rfl⟩;exact⟨⟨u,h1,h2,rfl⟩,h3,by omega⟩
  ·rintro⟨⟨u,h1,h2,rfl⟩,h3,h4⟩;exact⟨u,⟨h1,h2,h3,by omega⟩,rfl⟩
 refine ai8 (XG _) ?_ fun x=>?_
 ·rw[fT]
  refine⟨XG _,by split<;>simp,fun a ha c hc=>?_⟩
  rw[Bo,hm] at ha
  split at hc
  ·rw[cP] at hc; omega
  ·cases hc
 ·rw[Bo,hm,cM,Bo,hm]
  by_cases hu:Xv b id t=true
  ·rw[if_pos hu,cP];constructor
   ·rintro⟨h1,h2,h3⟩
    by_cases he:x=t
    ·exact .inr he
    ·exact .inl ⟨h1,h2,by omega⟩
   ·rintro(⟨h1,h2,h3⟩|rfl)
    ·exact⟨h1,h2,by omega⟩
    ·exact⟨hu,hft,by omega⟩
  ·rw[if_neg hu];constructor
   ·rintro⟨h1,h2,h3⟩;refine .inl ⟨h1,h2,?_⟩
    by_cases he:x=t
    ·rw[he] at h1; exact absurd h1 hu
    ·omega
   ·rintro(⟨h1,h2,h3⟩|h)
    ·exact⟨h1,h2,by omega⟩
    ·cases h
def Wa (h:Ő b) (g:ï) {f t:Int} (hft:f≤t):jF b g f (t+1)=jF b g f t+aeH b g t:=by
 unfold jF aeH;rw[Qs g.1 hft h.apart,T9 hft];show ň g.1 f t b.2.2.2.1+(match nY b g.1 t with|some l=>l.2.2|none=>0)+_=_
 cases ha:nY b g.1 t with
 |some l =>
  rw[h.notUsed ha];simp only[cX,if_false,dh];omega
 |none =>
  simp only
  cases Xv b g.1 t with
  |true=>simp only[if_true,cJ,dI,Int.natCast_add,fu]; omega
  |false=>simp only[cX,if_false,dh]; omega
def Wc (g:ï) {f t:Int} (hft:t≤f):jF b g f t=0:=by
 unfold jF
 have h1:∀x:List IX,ň g.1 f t x=0:=by
  intro x
  induction x with
  |nil=>rfl
  |cons l r ih =>
   simp only[ň];rw[ih,if_neg (by unfold Ġ; omega)];rfl
 have h2:i6 b g.1 f t=[]:=by
  unfold i6
  rw[gR.2 fun u hu hc=>by
   simp only[inP,cH,beq_iff_eq,decide_eq_true_eq] at hc
   omega]
  rfl
 rw[h1,h2];have h3:Xj ([]:List Int)=[]:=rfl;rw[h3];simp
end
def afi {ρ:Type}:@xP ρ=@iV ρ:=rfl
def afh {ρ:Type}:@xO ρ=@ū ρ:=rfl
def afg {ρ:Type}:@xN ρ=@ļ ρ:=rfl
def Wp {ρ:Type} {N:Nat} (hN:N≤1000) (x:Option ρ):è ((ile (0:Int) (N:Int))&&(ñ N)) x=x:=by
 have:=Gy hN x
 rwa [cT] at this
section
variable {L:List Lk} {N:Nat} {M:Int}
def acQ {s:Int} (hs:0≤s∧s<N):(List.replicate N ŵ).set s.toNat 0=wX (afF s) N:=by
 refine aan (by simp[ď]) fun v h0 h1=>?_
 have hv:v<N:=by simpa using h1
 rw[jG _ h0 hv,uq hs.1 h0 (by simp; omega)];unfold afF
 by_cases h:v=s
 ·simp[h]
 ·simp only[h,if_false,beq_iff_eq];unfold gv;rw[List.getElem?_replicate]
  have:v.toNat<N:=by omega
  simp[this]
def N3 (hL:jm L N M) (h1:1≤N) (hN:N≤200) (ho:jo L N=true) {s:Int} (hs:0≤s∧s<N):qZ ((N:Int),L) [] s=some (qi L N s):=by
 obtain⟨p,hp⟩:=(pe hL hN).1 ho;unfold qZ HX;rw[afi,afh,afg];dsimp only;rw[Gy (by omega),Int.toNat_natCast];refine ĵ (List.replicate N (0:Int)) (fun i=>List.replicate i ŵ++List.replicate (N-i) 0) _ (by simp) (fun i a hi ha kn=>?_) (fun kn=>?_)
 ·dsimp only;unfold qB
  have hiN:i<N:=by simpa using hi
  have hl:i<(List.replicate i ŵ++List.replicate (N-i) (0:Int)).length:=by simp; omega
  rw[Õ hi,Ε hl,ġ (cF hl),Î hiN (by omega),cT];congr 2;rw[gq _ _ (by simp)]
  have:N-i=(N-(i+1))+1:=by omega
  rw[this,fp,gX,f5,List.set_cons_zero,List.replicate_succ'];simp
 ·try dsimp only
  unfold qB;rw[â];dsimp only
  have e0:List.replicate (List.replicate N (0:Int)).length ŵ++List.replicate (N-(List.replicate N (0:Int)).length) 0=List.replicate N ŵ:=by simp
  rw[e0]
  have hlen:s.toNat<(List.replicate N ŵ).length:=by simp; omega
  rw[show ú (List.replicate N ŵ)=((N:Nat):Int) by simp[ú],ς hs.1 hs.2,mg hlen,Wp (by omega),Wp (by omega),acQ hs];refine eW (aae hL _) ?_
  have hS:∀v,afF s v=true→0≤v∧v<N:=fun v h=>by simp[afF] at h; subst h; exact hs
  refine acT (ď _ _) (by omega) _ fun w q hw hq hr hwq hqs=>?_;have hs0:=PQ hL h1 hS hw hq hr hwq hqs;refine Un hL (agd hL hN) hp hS _ (fun x w t q hx hd=>?_) hs0
  have:x=qi L N s:=by
   refine aan (by rw[hx]; unfold qi; rw[ũ,ď]) fun v a b=>?_;exact hd.uniq (Em hL hN hp hs) a (by omega)
  dsimp only;rw[this]
def Xg (L:List Lk) (N:Nat) (s t:Int):Int×Int :=
 if !jo L N then(0,9) else if gv (qi L N s) t=ŵ then(0,5) else(gv (qi L N s) t,0)
def aaU (h:kh L N) {ns:List Int} (hn:∀n∈ns,0≤n∧n<N) (hl:ns.length≤1000):AY ((N:Int),L) ns=some (if jo L N then 0 else 9):=by
 have h2:=h.n60;unfold AY Mq;rw[qP h,À];dsimp only;rw[Ò (by rfl)];refine Eq.trans (j7 ns (fun _=>false) (fun _=>some 1) (some (if jo L N then 0 else 9)) (fun i n hi hm kn=>?_) (fun kn=>?_)) ?_
 ·try dsimp only
  unfold tR;have a:=hn n (List.mem_of_getElem? hm)
  have e:(decide (0≤n)&&decide (n<(N:Int)))=true:=by simp[a.1,a.2]
  rw[Õ hi,È hm,XX,À,e,Î hi (by omega)];simp
 ·try dsimp only
  unfold tR;rw[â,wY h.links h.n1 (by omega),À]
  cases jo L N<;>rfl
 ·rw[dE.2 (by simp)]
def ahl (h:kh L N) {s t:Int} (hs:0≤s∧s<N) (ht:0≤t∧t<N):GS ((N:Int),L) s t=some (Xg L N s t):=by
 have h2:=h.n60;unfold GS ME Xg
 rw[aaU h (fun n hn=>by simp at hn; rcases hn with rfl|rfl<;>assumption) (by simp),À]
 by_cases ho:jo L N=true
 ·rw[if_pos ho,Ò (by rfl),N3 h.links h.n1 (by omega) ho hs,À,vq ht.1 (by unfold qi; rw[ũ,ď]; omega),Ķ,if_neg (show ¬(!jo L N)=true by simp[ho])]
  by_cases hf:gv (qi L N s) t=ŵ
  ·rw[if_pos (by simpa[ieq] using hf),if_pos hf]
  ·rw[if_neg (by simpa[ieq] using hf),if_neg hf]
 ·rw[if_neg ho,Ü (by rfl),if_pos (show(!jo L N)=true by simpa using ho)]
end
def IR:ò:=((0,0),[],[],[],[],[])
structure In (b:ò):Prop where
 size:yN b
 num:∀g∈b.2.1,I64 g.2.2.2.2.1.1
def IW (b:ò):Sys×List (Int×Int)×Int:=if ě b≠0 then((0,[]),[],ě b) else((((Ñ b).length:Int)+1,Τ b),ED b,0)
def Oc {b:ò} (h:In b):iX b=some (IW b):=by
 unfold iX Ih IW;rw[qO h.size h.num,À]
 by_cases hc:ě b=0
 ·rw[Ò (by simp[ine,hc]),agh ((ė b).1 hc),À,if_neg (show ¬(ě b≠0) from fun h=>h hc)]
 ·rw[Ü (by simp[ine,hc]),if_pos hc]
def uC (b:ò) (g:Int) (ds:List Int):Int:=if ě b≠0 then ě b else if ds.any (fun d=>!GW d) then 1 else if (nS (k:=tI) (v:=Ù) g (ĕ b)).isNone then 5 else 0
def WW {b:ò} (h:In b) (g:Int) {ds:List Int} (hd:ds.length≤1000):A2 b g ds=some (uC b g ds):=by
 unfold A2 Na uC;rw[qO h.size h.num,À]
 by_cases hc:ě b=0
 ·rw[Ò (by simp[ine,hc]),if_neg (show ¬(ě b≠0) from fun h=>h hc)]
  have last:(Ä (Ł b) fun r9=>KD (k:=tI) (v:=Ù) g r9 (fun y10=>some (0:Int)) (some (5:Int)))=some (if (nS (k:=tI) (v:=Ù) g (ĕ b)).isNone then 5 else 0):=by
   rw[vx h.size.gauges,À];unfold KD
   cases nS (k:=tI) (v:=Ù) g (ĕ b)<;>rfl
  refine eW (ks ds (fun d=>!GW d) (fun z5=>ifb (ige z5 (0:Int)) (some (1:Int)) (Ä (Ł b) fun r6=>KD (k:=tI) (v:=Ù) g r6 (fun y7=>some (0:Int)) (some (5:Int)))) (some 1) (some (if (nS (k:=tI) (v:=Ù) g (ĕ b)).isNone then 5 else 0)) (fun j=>?_) (fun i d hi hdi kn=>?_) (fun kn=>?_)) ?_
  ·rw[Ü (by simp[ige])]
  ·try dsimp only
   unfold ug;rw[Õ hi,È hdi,BG,À,Î hi (by omega),Ķ]
  ·try dsimp only
   unfold ug;rw[â,last]
  ·cases ds.any (fun d=>!GW d)<;>rfl
 ·rw[Ü (by simp[ine,hc]),if_pos hc]
def N7 {b:ò} {g:Int} {ds:List Int} (h:uC b g ds=0):Ő b∧(∀d∈ds,0≤d∧d≤20000)∧∃x,ç b g=some x∧nS (k:=tI) (v:=Ù) g (ĕ b)=some x:=by
 unfold uC at h
 split at h
 ·rename_i hc; exact(hc h).elim
 ·rename_i hc
  have hc0:ě b=0:=by simpa using hc
  have hg:=(ė b).1 hc0
  split at h
  ·omega
  ·rename_i hd
   split at h
   ·omega
   ·rename_i hm;refine⟨hg,fun d hdm=>?_,?_⟩
    ·have:=eF.1 (eR.2 hd) d hdm;simpa[GW,inP] using this
    ·rw[ov hg.ids] at hm ⊢
     cases hx:ç b g with
     |none=>rw[hx] at hm; simp at hm
     |some x=>exact⟨x,rfl,rfl⟩
def T2 (b:ò) (g f t:Int):Int×Int :=
 if uC b g [f,t]≠0 then(0,uC b g [f,t]) else
 match nS (k:=tI) (v:=Ù) g (ĕ b) with
 |some x=>if t<f then(0,3) else if f<x.2.1 then(0,3) else(jF b x f t,0)
 |none=>(0,0)
def ai9 {b:ò} (h:In b) (g f t:Int):KN b g f t=some (T2 b g f t):=by
 unfold KN Ta T2;rw[WW h g (by simp),À]
 by_cases ha:uC b g [f,t]=0
 ·obtain⟨hg,hd,x,hx,hm⟩:=N7 ha;have d1:=hd f (by simp);have d2:=hd t (by simp);have hr:=hg.gaugeR (Š hx).1;rw[Ò (by simp[ine,ha]),if_neg (show ¬(uC b g [f,t]≠0) from fun h=>h ha),vx h.size.gauges,À];simp only[KD,hm];rw[Ķ]
  by_cases h1:t<f
  ·rw[if_pos (by simpa[igt] using h1),if_pos h1]
  ·rw[if_neg (by simpa[igt] using h1),if_neg h1,Ķ]
   by_cases h2:f<x.2.1
   ·rw[if_pos (by simpa[ilt] using h2),if_pos h2]
   ·rw[if_neg (by simpa[ilt] using h2),if_neg h2,adH hg hr.2.2.2.2.2.2.2 ⟨by omega,by omega⟩ ⟨by omega,by omega⟩,À]
 ·rw[Ü (by simp[ine,ha]),if_pos ha]
section
variable {b:ò}
def aiw:off b b.2.1.length=(Ñ b).length:=by unfold off Ñ; rw[List.take_length]
def aga:∀n,n≤b.2.1.length→∀j,j<off b n→∃(i:Nat) (g:ï) (k:Nat),b.2.1[i]?=some g∧k<(é b g).length∧j=off b i+k:=by
 intro n
 induction n with
 |zero=>intro _ j hj; simp[off] at hj
 |succ n ih =>
  intro hn j hj;have hg:b.2.1[n]?=some b.2.1[n]:=cF (by omega);rw[af9 hg] at hj
  by_cases h:j<off b n
  ·exact ih (by omega) j h
  ·exact⟨n,_,j-off b n,hg,by omega,by omega⟩
def P6 {v:Int} (h0:1≤v) (h1:v<((Ñ b).length+1:Nat)):∃(i:Nat) (g:ï) (k:Nat),b.2.1[i]?=some g∧k<(é b g).length∧v=(off b i:Int)+k+1:=by
 obtain⟨i,g,k,h2,h3,h4⟩:=aga (b:=b) b.2.1.length (cG _) (v-1).toNat (by rw[aiw]; omega);exact⟨i,g,k,h2,h3,by omega⟩
def GL (b:ò) (L:List Lk):Prop:=∀(i:Nat) (g:ï),b.2.1[i]?=some g→∀l∈ŧ b g,l∈L
def aap:GL b (Τ b):=fun i g hg l hl=>qW.2 (.inl ⟨i,g,hg,hl⟩)
def ah7 {L:List Lk} (h:Ő b) (hL:GL b L) {v:Int} (h0:0≤v) (h1:v<((Ñ b).length+1:Nat)):∃vs d,Wl L (fun u=>u=0) vs v d∧d≤4503599627370496:=by
 by_cases hv:v=0
 ·exact⟨[],0,.nil hv,by omega⟩
 obtain⟨i,g,k,hg,hk,rfl⟩:=P6 (by omega) h1;have hr:=h.gaugeR (cO hg);have r1:=hr.2.2.2.2.2.1;have r2:=hr.2.2.2.2.2.2.1
 have key:∀k:Nat,k<(é b g).length→∃vs,Wl L (fun u=>u=0) vs ((off b i:Int)+k+1) (g.2.2.1+g.2.2.2.1.2):=by
  intro k
  induction k with
  |zero =>
   intro _;have hw:Wl L (fun u=>u=0) [0] ((off b i:Int)+1) (0+(g.2.2.1+g.2.2.2.1.2)):=Wl.step (.nil rfl) (hL i g hg _ ((Œ h hg).2 (.inl rfl)));rw[Int.zero_add] at hw;exact⟨[0],by simpa using hw⟩
  |succ k ih =>
   intro hk;obtain⟨vs,hw⟩:=ih (by omega);have hw':=Wl.step hw (hL i g hg _ ((Œ h hg).2 (.inr (.inr ⟨k,_,_,cF (show k<_ by omega),cF hk,.inl rfl⟩))));rw[gy] at hw'
   have e:(off b i:Int)+((k+1:Nat):Int)+1=(off b i:Int)+k+2:=by push_cast; omega
   exact⟨_,by rw[e]; exact hw'⟩
 obtain⟨vs,hw⟩:=key k hk;exact⟨vs,_,hw,by omega⟩
def acK {L:List Lk} (h:Ő b) (hL:GL b L) {v:Int} (h0:0≤v) (h1:v<((Ñ b).length+1:Nat)):∃vs d,Wl L (fun u=>u=v) vs 0 d∧d≤4503599627370496:=by
 by_cases hv:v=0
 ·exact⟨[],0,.nil hv.symm,by omega⟩
 obtain⟨i,g,k,hg,hk,rfl⟩:=P6 (by omega) h1;have hgm:=cO hg;have hr:=h.gaugeR hgm;have r1:=hr.2.2.2.2.2.1;have r2:=hr.2.2.2.2.2.2.1;have hd:=TG h hgm
 have key:∀m:Nat,m≤k→∃vs d,Wl L (fun u=>u=(off b i:Int)+k+1) vs ((off b i:Int)+(k-m:Nat)+1) d∧d≤m*(12*(20001*1048576)+40*1048576):=by
  intro m
  induction m with
  |zero=>intro _; exact⟨[],0,.nil (by simp),by simp⟩
  |succ m ih =>
   intro hm;obtain⟨vs,d,hw,hd⟩:=ih (by omega)
   have e1:((k-m:Nat):Int)=((k-(m+1):Nat):Int)+1:=by omega
   have hl:(((off b i:Int)+(k-(m+1):Nat)+2,(off b i:Int)+(k-(m+1):Nat)+1,jF b g ((é b g)[k-(m+1)]'(by omega)) ((é b g)[k-(m+1)+1]'(by omega))):Lk)∈L :=
    hL i g hg _ ((Œ h hg).2 (.inr (.inr ⟨k-(m+1),_,_,cF (by omega),cF (by omega),.inr rfl⟩)))
   have hb:=se h hgm (f:=(é b g)[k-(m+1)]'(by omega)) (t:=(é b g)[k-(m+1)+1]'(by omega)) (h.day hgm (eN _)).2.1
   have e2:(off b i:Int)+(k-m:Nat)+1=(off b i:Int)+(k-(m+1):Nat)+2:=by omega
   rw[e2] at hw;exact⟨_,_,.step hw hl,by push_cast; omega⟩
 obtain⟨vs,d,hw,hdb⟩:=key k (cG _)
 have e:(off b i:Int)+(k-k:Nat)+1=(off b i:Int)+1:=by omega
 rw[e] at hw;have hw':=Wl.step hw (hL i g hg _ ((Œ h hg).2 (.inr (.inl rfl))));exact⟨_,_,hw',by omega⟩
end
structure W6 (L:List Lk) (N:Nat):Prop where
 to:∀v:Int,0≤v→v<N→∃vs d,Wl L (fun u=>u=0) vs v d∧d≤4503599627370496
 from':∀v:Int,0≤v→v<N→∃vs d,Wl L (fun u=>u=v) vs 0 d∧d≤4503599627370496
def Ő.tied {b:ò} (h:Ő b):W6 (Τ b) ((Ñ b).length+1):=⟨fun v h0 h1=>ah7 h aap h0 h1,fun v h0 h1=>acK h aap h0 h1⟩
section
variable {L:List Lk} {N:Nat}
def ahv {L:List Lk} {s:Int} {vs:List Int} {v d:Int}:Wl L (fun v=>afF s v=true) vs v d↔Wl L (fun u=>u=s) vs v d :=
 ⟨fun h=>h.mono fun u hu=>by simpa[afF] using hu,fun h=>h.mono fun u hu=>by simpa[afF] using hu⟩
def N4 (s:Int):(qi L N s).length=N:=by unfold qi; rw[ũ,ď]
end
def abU {b:ò} {id:Int}:(∃j g,b.2.1.findIdx? (fun g=>g.1==id)=some j∧b.2.1[j]?=some g∧ç b id=some g)∨(b.2.1.findIdx? (fun g=>g.1==id)=none∧ç b id=none):=by
 unfold ç;rw[KK]
 cases h:b.2.1.findIdx? (fun g=>g.1==id) with
 |none=>exact .inr ⟨rfl,rfl⟩
 |some j =>
  obtain⟨hj,_,_⟩:=dg.1 h;exact .inl ⟨j,_,rfl,cF hj,cF hj⟩
def I6 (b:ò) (id day:Int):Int:=match ç b id with|some g=>if day<g.2.1 then 4 else 0|none=>5
def XD {b:ò} (hi:b.2.1.Pairwise fun a b=>a.1<b.1) (id day:Int):I6 b id day=ow (ĕ b) id day:=by
 unfold I6 ow;rw[ov hi]
 cases ç b id<;>rfl
def Xm (e:Int):Option Int:=if e=0 then none else some e
end Go.Proofs.ZzM
end
