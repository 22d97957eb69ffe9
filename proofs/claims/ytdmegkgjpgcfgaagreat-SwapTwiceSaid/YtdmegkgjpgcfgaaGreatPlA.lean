/- lemmas -/
import Derived.Test.YtdmegkgjpgcfgaaGreatMdPA
import Derived.Test.YtdmegkgjpgcfgaaGreatMdTA
set_option linter.all false
set_option linter.unusedSectionVars false
set_option linter.unusedVariables false
set_option linter.unusedSimpArgs false
noncomputable section
namespace Go.Proofs.ZzM
open Go Go.Am
abbrev Lk:Type:=Int×Int×Int
inductive Wl (L:List Lk) (S:Int→Prop):List Int→Int→Int→Prop
 |nil {v:Int}:S v→Wl L S [] v 0
 |step {vs:List Int} {u v m d:Int}:Wl L S vs u d→(u,v,m)∈L→Wl L S (u::vs) v (d+m)
def Pot (L:List Lk) (p:Int→Int):Prop:=∀u v m,(u,v,m)∈L→p v≤p u+m
def InR (L:List Lk) (N:Nat):Prop:=∀l∈L,(0≤l.1∧l.1<N)∧(0≤l.2.1∧l.2.1<N)
section
variable {L:List Lk} {S:Int→Prop} {N:Nat} {p:Int→Int}
def Wl.cut (hp:Pot L p) {vs:List Int} {v d:Int} (h:Wl L S vs v d):∀x∈vs,∃vs1 d1,Wl L S vs1 x d1∧(x::vs1) <:+ vs∧d1+(p v-p x)≤d:=by
 induction h with
 |nil h=>intro x hx; cases hx
 | @step vs u v m d hw hl ih =>
  intro x hx;have h1:=hp u v m hl;rcases cO.1 hx with rfl|hx
  ·exact⟨vs,d,hw,List.suffix_refl _,by omega⟩
  ·obtain⟨vs1,d1,g1,g2,g3⟩:=ih x hx;exact⟨vs1,d1,g1,g2.trans (List.suffix_cons _ _),by omega⟩
def Wl.simple (hp:Pot L p) {vs:List Int} {v d:Int} (h:Wl L S vs v d):∃vs' d',Wl L S vs' v d'∧d'≤d∧(v::vs').Nodup:=by
 induction h with
 |nil h=>exact⟨[],0,.nil h,dK _,by simp⟩
 | @step vs u v m d hw hl ih =>
  obtain⟨vs1,d1,g1,g2,g3⟩:=ih;have hw1:=Wl.step g1 hl
  by_cases hv:v∈u::vs1
  ·obtain⟨vs2,d2,k1,k2,k3⟩:=hw1.cut hp v hv;exact⟨vs2,d2,k1,by omega,g3.sublist k2.sublist⟩
  ·exact⟨u::vs1,d1+m,hw1,by omega,eW.2 ⟨hv,g3⟩⟩
def Wl.range (hL:InR L N) (hS:∀v,S v→0≤v∧v<N) {vs:List Int} {v d:Int} (h:Wl L S vs v d):(0≤v∧v<N)∧∀u∈vs,0≤u∧u<N:=by
 induction h with
 |nil h=>exact⟨hS _ h,fun u hu=>by cases hu⟩
 | @step vs u v m d hw hl ih =>
  refine⟨(hL _ hl).2,fun w hw'=>?_⟩;rcases cO.1 hw' with rfl|h
  ·exact ih.1
  ·exact ih.2 w h
def Ya:∀(N:Nat) (l:List Int),l.Nodup→(∀x∈l,0≤x∧x<N)→l.length≤N
 |0,l,_,h=>by
  cases l with
  |nil=>simp
  |cons a l=>have:=h a (by simp); omega
 |N+1,l,hn,h=>by
  have h1:(l.erase (N:Int)).length≤N:=Ya N _ (hn.erase _) fun x hx=>by
   have h2:=(hn.mem_erase_iff).1 hx;have:=h x h2.2;have:=h2.1;omega
  have:=List.length_erase (a:=(N:Int)) (l:=l)
  split at this<;>omega
def Wl.short (hL:InR L N) (hS:∀v,S v→0≤v∧v<N) {vs:List Int} {v d:Int} (h:Wl L S vs v d) (hn:(v::vs).Nodup):vs.length+1≤N:=by
 have:=h.range hL hS
 exact Ya N (v::vs) hn fun x hx=>by
  rcases cO.1 hx with rfl|hx
  ·exact this.1
  ·exact this.2 x hx
def Ho (f:Lk→Bool):List Lk→Int
 |[]=>0
 |l::t=>(if f l then min l.2.2 0 else 0)+Ho f t
def ab1 (f:Lk→Bool):∀L:List Lk,Ho (fun _=>true) L≤Ho f L
 |[]=>dK _
 |l::t=>by
  have:=ab1 f t;simp only[Ho,if_true]
  split<;>omega
def uu (f:Lk→Bool):∀L:List Lk,Ho f L≤0
 |[]=>dK _
 |l::t=>by
  have:=uu f t;simp only[Ho]
  split<;>omega
def Yr {f:Lk→Bool} {l:Lk} (hf:f l=true):∀{L:List Lk},l∈L→Ho f L≤l.2.2
 |a::t,h=>by
  simp only[Ho];rcases cO.1 h with rfl|h
  ·have:=uu f t;rw[if_pos hf]; omega
  ·have:=Yr hf h
   split<;>omega
def ab0 {f g:Lk→Bool} (h:∀l,f l=true→g l=false):∀L:List Lk,Ho (fun l=>f l||g l) L=Ho f L+Ho g L
 |[]=>rfl
 |l::t=>by
  have ih:=ab0 h t;simp only[Ho,ih]
  by_cases hf:f l=true
  ·simp[hf,h l hf]; omega
  ·have hf':f l=false:=by simpa using hf
   by_cases hg:g l=true
   ·simp[hf',hg]; omega
   ·simp[hf',hg]
def Wl.low {vs:List Int} {v d:Int} (h:Wl L S vs v d):vs.Nodup→Ho (fun l=>vs.contains l.1) L≤d:=by
 induction h with
 |nil h=>intro _; exact uu _ _
 | @step vs u v m d hw hl ih =>
  intro hn;rw[eW] at hn;have h1:=ih hn.2;have h2:Ho (fun l=>l.1==u) L≤m:=Yr (f:=fun l=>l.1==u) (l:=(u,v,m)) (by simp) hl
  have h3:=ab0 (f:=fun l:Lk=>l.1==u) (g:=fun l=>vs.contains l.1) (fun l hf=>by
   simp only[beq_iff_eq] at hf;rw[hf]
   simpa using hn.1) L
  have h4:(fun l:Lk=>(u::vs).contains l.1)=fun l=>(l.1==u)||vs.contains l.1:=by funext l; rw[List.contains_cons]
  rw[h4,h3];omega
def Ij (L:List Lk):Int:=Ho (fun _=>true) L
def Wl.low' (hp:Pot L p) {vs:List Int} {v d:Int} (h:Wl L S vs v d):Ij L≤d:=by
 obtain⟨vs',d',h1,h2,h3⟩:=h.simple hp;have:=h1.low (List.nodup_cons.1 h3).2;have:=ab1 (fun l=>vs'.contains l.1) L;unfold Ij;omega
def Wl.high {M:Int} (hM:∀l∈L,l.2.2≤M) {vs:List Int} {v d:Int} (h:Wl L S vs v d):d≤vs.length*M:=by
 induction h with
 |nil h=>simp
 | @step vs u v m d hw hl ih =>
  have:=hM _ hl;simp only[cX,gy,gh,gA];simp only at this;omega
def Wl.lowM {M:Int} (hM:∀l∈L,-M≤l.2.2) {vs:List Int} {v d:Int} (h:Wl L S vs v d) : -(vs.length*M)≤d:=by
 induction h with
 |nil h=>simp
 | @step vs u v m d hw hl ih =>
  have:=hM _ hl;simp only[cX,gy,gh,gA];simp only at this;omega
def Wl.mono {S':Int→Prop} (hS:∀v,S v→S' v) {vs:List Int} {v d:Int} (h:Wl L S vs v d):Wl L S' vs v d:=by
 induction h with
 |nil h=>exact .nil (hS _ h)
 |step hw hl ih=>exact .step ih hl
def Wl.pot (hp:Pot L p) {vs:List Int} {v d:Int} (h:Wl L S vs v d):∃s,S s∧p v-p s≤d:=by
 induction h with
 | @nil v h=>exact⟨v,h,by omega⟩
 | @step vs u v m d hw hl ih =>
  obtain⟨s,h1,h2⟩:=ih;have:=hp u v m hl;exact⟨s,h1,by omega⟩
end
abbrev Š:Int:=1152921504606846976
structure aaR (L:List Lk) (S:Int→Prop) (N:Nat) (x:Int→Int):Prop where
 att:∀v:Int,0≤v→v<N→x v≠Š→∃vs,Wl L S vs v (x v)
 low:∀v vs d,Wl L S vs v d→x v≤d
 bd:∀v:Int,0≤v→v<N→x v≤Š
def aaR.uniq {L:List Lk} {S:Int→Prop} {N:Nat} {x y:Int→Int} (hx:aaR L S N x) (hy:aaR L S N y) {v:Int} (h0:0≤v) (h1:v<N):x v=y v:=by
 have key:∀{x y:Int→Int},aaR L S N x→aaR L S N y→x v≤y v:=by
  intro x y hx hy
  by_cases h:y v=Š
  ·rw[h]; exact hx.bd v h0 h1
  ·obtain⟨vs,hw⟩:=hy.att v h0 h1 h;exact hx.low v vs _ hw
 exact Int.le_antisymm (key hx hy) (key hy hx)
def gv (x:List Int) (v:Int):Int:=x[v.toNat]?.getD 0
def YJ {x:List Int} {v:Int} (h:v.toNat<x.length):x[v.toNat]?=some (gv x v):=by
 unfold gv; rw[List.getElem?_eq_getElem h]; rfl
def rC {x:List Int} {u v:Int} (hu:0≤u) (hv:0≤v) (h:u.toNat<x.length) (y:Int):gv (x.set u.toNat y) v=if v=u then y else gv x v:=by
 unfold gv;rw[List.getElem?_set]
 by_cases hvu:v=u
 ·subst hvu; simp[h]
 ·have:¬u.toNat=v.toNat:=by omega
  simp[hvu,this]
def YK {x y:List Int} (hl:x.length=y.length) (h:∀v:Int,0≤v→v<x.length→gv x v=gv y v):x=y:=by
 refine List.ext_getElem hl fun i h1 h2=>?_;have:=h i (by omega) (by omega);unfold gv at this;simpa[h1,h2] using this
def lQ (x:List Int) (l:Lk):List Int:=if gv x l.1<Š∧gv x l.1+l.2.2<gv x l.2.1 then x.set l.2.1.toNat (gv x l.1+l.2.2) else x
def Hm (L:List Lk) (x:List Int):List Int:=L.foldl lQ x
def kE (L:List Lk):Nat→List Int→List Int
 |0,x=>x
 |n+1,x=>kE L n (Hm L x)
def ol (x:List Int) (l:Lk):(lQ x l).length=x.length:=by unfold lQ; split<;>simp
def wM (L:List Lk):∀x:List Int,(Hm L x).length=x.length:=by
 induction L with
 |nil=>intro x; rfl
 |cons l t ih=>intro x; show(Hm t (lQ x l)).length=_; rw[ih,ol]
def ţ (L:List Lk):∀(n:Nat) (x:List Int),(kE L n x).length=x.length
 |0,x=>rfl
 |n+1,x=>by rw[kE,ţ L n,wM]
def A6 (L:List Lk):∀(n:Nat) (x:List Int),kE L (n+1) x=Hm L (kE L n x)
 |0,x=>rfl
 |n+1,x=>by rw[kE,A6 L n]; rfl
section
variable {L0:List Lk} {S:Int→Prop} {N:Nat}
def SF {x:List Int} {l:Lk} (hl:(0≤l.1∧l.1<N)∧(0≤l.2.1∧l.2.1<N)) (hx:x.length=N) (v:Int) (hv:0≤v):gv (lQ x l) v≤gv x v:=by
 unfold lQ
 split
 ·rename_i h;rw[rC hl.2.1 hv (by omega)]
  split
  ·rename_i h2; subst h2; omega
  ·exact dK _
 ·exact dK _
def Co:∀{L:List Lk},InR L N→∀{x:List Int},x.length=N→∀v,0≤v→gv (Hm L x) v≤gv x v
 |[],_,x,_,v,_=>dK _
 |l::t,hL,x,hx,v,hv=>by
  have h1:=SF (hL l (by simp)) hx v hv;have h2:=Co (L:=t) (fun l hl=>hL l (by simp[hl])) (x:=lQ x l) (by rw[ol,hx]) v hv;show gv (Hm t (lQ x l)) v≤_;omega
def EV:∀{L:List Lk},InR L N→∀{x:List Int},x.length=N→∀u v m,(u,v,m)∈L→gv x u<Š→gv (Hm L x) v≤gv x u+m
 |l::t,hL,x,hx,u,v,m,hm,hf=>by
  have ht:InR t N:=fun l hl=>hL l (by simp[hl])
  have hx':(lQ x l).length=N:=by rw[ol,hx]
  show gv (Hm t (lQ x l)) v≤_;rcases cO.1 hm with rfl|hm
  ·have hl:=hL (u,v,m) (by simp);have h2:=Co ht hx' v hl.2.1
   have h3:gv (lQ x (u,v,m)) v≤gv x u+m:=by
    unfold lQ
    split
    ·rw[rC hl.2.1 hl.2.1 (by simp only at hl; simp only; omega),if_pos rfl]; exact dK _
    ·rename_i h; simp only[not_and,Int.not_lt] at h; exact h hf
   omega
  ·have hl:=hL (u,v,m) (by simp[hm]);have h1:=SF (hL l (by simp)) hx u hl.1.1;have:=EV ht hx' u v m hm (by omega);omega
def Att (L0:List Lk) (S:Int→Prop) (N:Nat) (x:List Int):Prop:=∀v:Int,0≤v→v<N→gv x v<Š→∃vs,Wl L0 S vs v (gv x v)
def ZF {x:List Int} {l:Lk} (hl:(0≤l.1∧l.1<N)∧(0≤l.2.1∧l.2.1<N)) (hm:l∈L0) (hx:x.length=N) (h:Att L0 S N x):Att L0 S N (lQ x l):=by
 unfold lQ
 split
 ·rename_i hc;intro v h0 h1 hf;rw[rC hl.2.1 h0 (by omega)] at hf ⊢
  split
  ·rename_i h2;obtain⟨vs,hw⟩:=h l.1 hl.1.1 hl.1.2 hc.1;exact⟨_,h2▸Wl.step hw hm⟩
  ·rename_i h2;rw[if_neg h2] at hf;exact h v h0 h1 hf
 ·exact h
def SO:∀{L:List Lk},InR L N→(∀l∈L,l∈L0)→∀{x:List Int},x.length=N→Att L0 S N x→Att L0 S N (Hm L x)
 |[],_,_,_,_,h=>h
 |l::t,hL,hsub,x,hx,h=>SO (L:=t) (fun l hl=>hL l (by simp[hl])) (fun l hl=>hsub l (by simp[hl])) (x:=lQ x l) (by rw[ol,hx]) (ZF (hL l (by simp)) (hsub l (by simp)) hx h)
def N7 (hL:InR L0 N):∀(n:Nat) {x:List Int},x.length=N→Att L0 S N x→Att L0 S N (kE L0 n x)
 |0,_,_,h=>h
 |n+1,x,hx,h=>N7 hL n (by rw[wM,hx]) (SO hL (fun _ h=>h) hx h)
def Cn (hL:InR L0 N):∀(n:Nat) {x:List Int},x.length=N→∀v,0≤v→gv (kE L0 n x) v≤gv x v
 |0,_,_,_,_=>dK _
 |n+1,x,hx,v,hv=>Int.le_trans (Cn hL n (by rw[wM,hx]) v hv) (Co hL hx v hv)
def uj (S:Int→Bool) (N:Nat):List Int:=(List.range N).map fun(i:Nat)=>if S i then 0 else Š
def iK (S:Int→Bool) {N:Nat} {v:Int} (h0:0≤v) (h1:v<N):gv (uj S N) v=if S v then 0 else Š:=by
 unfold gv uj
 have:v.toNat<N:=by omega
 rw[eA,fY this];simp only[dI,gP];rw[Int.toNat_of_nonneg h0]
def č (S:Int→Bool) (N:Nat):(uj S N).length=N:=by simp[uj]
end
def EU {L:List Lk} {S:Int→Bool} {N:Nat} {M:Int} (hL:InR L N) (hS:∀v,S v=true→0≤v∧v<N) (hM:∀l∈L,l.2.2≤M):∀(n:Nat),n*M<Š→0≤M→∀vs v d,Wl L (fun v=>S v=true) vs v d→vs.length≤n→gv (kE L n (uj S N)) v≤d
 |0,_,_,vs,v,d,hw,hl=>by
  cases hw with
  |nil h =>
   have:=hS v h;rw[kE,iK S this.1 this.2,if_pos h]; exact dK _
  |step=>simp at hl
 |n+1,hn,hM0,vs,v,d,hw,hl=>by
  have hn':n*M<Š:=by rw[gy,gh,gA] at hn; omega
  have hlen:(kE L n (uj S N)).length=N:=by rw[ţ,č]
  rw[A6]
  cases hw with
  |nil h =>
   have h1:=Co hL hlen v (hS v h).1;have h2:=EU hL hS hM n hn' hM0 [] v 0 (.nil h) (by simp);omega
  | @step vs u _ m d hw hlk =>
   have h2:=EU hL hS hM n hn' hM0 vs u d hw (by simpa using hl);have h3:=hw.high hM;have h4:(vs.length:Int)*M≤n*M:=ft (by simp at hl; omega) hM0;have:=EV hL hlen u v m hlk (by omega);omega
def I8 {L:List Lk} {S:Int→Bool} {N:Nat} {M:Int} {p:Int→Int} (hp:Pot L p) (hL:InR L N) (hS:∀v,S v=true→0≤v∧v<N) (hM:∀l∈L,l.2.2≤M) (hM0:0≤M) (hN:N*M<Š) (n:Nat) (hn:N≤n+1):aaR L (fun v=>S v=true) N (gv (kE L n (uj S N))):=by
 have hatt:Att L (fun v=>S v=true) N (uj S N):=fun v h0 h1 hf=>by
  rw[iK S h0 h1] at hf ⊢
  split
  ·rename_i h; exact⟨[],.nil h⟩
  ·rename_i h; rw[if_neg h] at hf; omega
 have hbd:∀v:Int,0≤v→v<N→gv (kE L n (uj S N)) v≤Š:=fun v h0 h1=>by
  have:=Cn hL n (č S N) v h0;rw[iK S h0 h1] at this
  have hF:(0:Int)≤Š:=by decide
  split at this<;>omega
 have hlow:∀(n:Nat),N≤n+1→∀v vs d,Wl L (fun v=>S v=true) vs v d→gv (kE L n (uj S N)) v≤d:=by
  intro n hn v vs d hw;obtain⟨vs',d',h1,h2,h3⟩:=hw.simple hp;have h4:=h1.short hL hS h3
  have hpos:0<N:=by omega
  obtain⟨k,rfl⟩:∃k,N=k+1:=⟨N-1,by omega⟩
  have hk:(k:Int)*M<Š:=by rw[gy,gh,gA] at hN; omega
  have h5:=EU hL hS hM k hk hM0 vs' v d' h1 (by omega);obtain⟨j,rfl⟩:∃j,n=k+j:=⟨n-k,by omega⟩
  have h6:∀(j:Nat),gv (kE L (k+j) (uj S (k+1))) v≤gv (kE L k (uj S (k+1))) v:=by
   intro j
   induction j with
   |zero=>exact dK _
   |succ j ih =>
    rw[←Nat.add_assoc,A6];have:=Co hL (x:=kE L (k+j) (uj S (k+1))) (by rw[ţ,č]) v (h1.range hL hS).1.1;omega
  have:=h6 j;omega
 exact⟨fun v h0 h1 hne=>N7 hL n (č S N) hatt v h0 h1 (by have:=hbd v h0 h1; omega),hlow n hn,hbd⟩
def aaR.pot {L:List Lk} {S:Int→Prop} {N:Nat} {x:Int→Int} (h:aaR L S N x) (hL:InR L N) {u v m:Int} (hl:(u,v,m)∈L) (hf:x u≠Š):x v≤x u+m:=by
 obtain⟨vs,hw⟩:=h.att u (hL _ hl).1.1 (hL _ hl).1.2 hf;exact h.low v _ _ (.step hw hl)
section
variable {α:Type} (key:α→Int)
def Srt (l:List α):Prop:=l.Pairwise fun x y=>key x≤key y
def Stb (l s:List α):Prop:=∀k:Int,s.filter (fun x=>key x==k)=l.filter (fun x=>key x==k)
variable {key}
def Stb.refl (l:List α):Stb key l l:=fun _=>rfl
def Stb.symm {l s:List α} (h:Stb key l s):Stb key s l:=fun k=>(h k).symm
def Stb.trans {l s t:List α} (h:Stb key l s) (h2:Stb key s t):Stb key l t:=fun k=>(h2 k).trans (h k)
def Stb.append {l s l' s':List α} (h:Stb key l s) (h2:Stb key l' s'):Stb key (l++l') (s++s'):=fun k=>by
 rw[eF,eF,h k,h2 k]
def Stb.mem {l s:List α} (h:Stb key l s) {x:α}:x∈s↔x∈l:=by
 have:=h (key x);constructor
 ·intro hx;have:x∈s.filter fun y=>key y==key x:=dT.2 ⟨hx,by simp⟩;rw[h] at this;exact(dT.1 this).1
 ·intro hx;have:x∈l.filter fun y=>key y==key x:=dT.2 ⟨hx,by simp⟩;rw[←h] at this;exact(dT.1 this).1
def Stb.swap {u v:List α} (h:∀x∈u,∀y∈v,key x≠key y):Stb key (u++v) (v++u):=fun k=>by
 rw[eF,eF]
 by_cases hu:∃x∈u,key x=k
 ·obtain⟨x,hx,rfl⟩:=hu
  have:v.filter (fun y=>key y==key x)=[]:=gO.2 fun y hy=>by
   have:=h x hx y hy;simp; omega
  rw[this]; simp
 ·have:u.filter (fun y=>key y==k)=[]:=gO.2 fun y hy=>by
   simp;exact fun e=>hu ⟨y,hy,e⟩
  rw[this]; simp
def Stb.uniq:∀{s t:List α},Srt key s→Srt key t→Stb key s t→s=t
 |[],[],_,_,_=>rfl
 |[],y::t,_,_,h=>absurd ((h.mem (x:=y)).1 (by simp)) (by simp)
 |x::s,[],_,_,h=>absurd ((h.mem (x:=x)).2 (by simp)) (by simp)
 |x::s,y::t,hs,ht,h=>by
  have h1:=dz.1 hs;have h2:=dz.1 ht
  have hk:key x=key y:=by
   have a1:key x≤key y:=by
    rcases cO.1 ((h.mem (x:=y)).1 (by simp)) with e|hm
    ·rw[e]; exact dK _
    ·exact h1.1 y hm
   have a2:key y≤key x:=by
    rcases cO.1 ((h.mem (x:=x)).2 (by simp)) with e|hm
    ·rw[e]; exact dK _
    ·exact h2.1 x hm
   omega
  have hx:x=y:=by
   have:=h (key x);have hky:(key y==key x)=true:=beq_iff_eq.2 hk.symm;have hkx:(key x==key x)=true:=beq_iff_eq.2 rfl;simp only[dU,hky,hkx,if_true] at this;exact(List.cons.inj this).1.symm
  subst hx;congr 1;refine Stb.uniq h1.2 h2.2 fun k=>?_;have:=h k
  by_cases hk:key x=k
  ·rw[List.filter_cons_of_pos (by simp[hk]),List.filter_cons_of_pos (by simp[hk])] at this;exact(List.cons.inj this).2
  ·rw[List.filter_cons_of_neg (by simp[hk]),List.filter_cons_of_neg (by simp[hk])] at this;exact this
variable (key)
def aab (x:α):List α→List α
 |[]=>[x]
 |y::l=>if key x≤key y then x::y::l else y::aab x l
def Ļ (l:List α):List α:=l.foldr (aab key) []
variable {key}
def Rj (x:α):∀l:List α,Stb key (x::l) (aab key x l)
 |[]=>Stb.refl _
 |y::l=>by
  unfold aab
  split
  ·exact Stb.refl _
  ·rename_i h;refine Stb.trans (s:=y::x::l) ?_ fun k=>?_
   ·have:=Stb.swap (key:=key) (u:=[x]) (v:=[y]) (fun a ha b hb=>by simp at ha hb; subst ha hb; omega);exact(this.append (Stb.refl l))
   ·have:=Rj x l k;simp only[dU];rw[this];simp only[dU]
def aeY {x z:α} {l:List α}:z∈aab key x l↔z=x∨z∈l:=by
 rw[(Rj x l).mem,cO]
def YG (x:α):∀{l:List α},Srt key l→Srt key (aab key x l)
 |[],_=>fD _ _
 |y::l,h=>by
  have h1:=List.pairwise_cons.1 h;unfold aab
  split
  ·rename_i hx;refine List.Pairwise.cons (fun z hz=>?_) h;rcases cO.1 hz with rfl|hz
   ·exact hx
   ·exact Int.le_trans hx (h1.1 z hz)
  ·rename_i hx;refine List.Pairwise.cons (fun z hz=>?_) (YG x h1.2);rcases aeY.1 hz with rfl|hz
   ·omega
   ·exact h1.1 z hz
def jK:∀l:List α,Srt key (Ļ key l)
 |[]=>List.Pairwise.nil
 |x::l=>YG x (jK l)
def Ō:∀l:List α,Stb key l (Ļ key l)
 |[]=>Stb.refl _
 |x::l=>by
  have:Stb key (x::l) (x::Ļ key l):=(Stb.refl [x]).append (Ō l);exact this.trans (Rj x _)
def vr {l s:List α} (h:Srt key s) (h2:Stb key l s):Ļ key l=s:=Stb.uniq (jK l) h ((Ō l).symm.trans h2)
def Stb.perm {l s:List α} [DecidableEq α] (h:Stb key l s):s.Perm l:=by
 rw[List.perm_iff_count];intro x
 have e:∀l:List α,l.count x=(l.filter fun y=>key y==key x).count x:=fun l=>by
  rw[List.count_filter];simp
 rw[e s,e l,h]
def Stb.length {l s:List α} (h:Stb key l s):s.length=l.length:=by
 classical
 exact h.perm.length_eq
def Srt.append {l s:List α} (h:Srt key l) (h2:Srt key s) (h3:∀x∈l,∀y∈s,key x≤key y):Srt key (l++s):=fR.2 ⟨h,h2,h3⟩
def Srt.parts {l s:List α} (h:Srt key (l++s)):Srt key l∧Srt key s∧∀x∈l,∀y∈s,key x≤key y:=fR.1 h
end
abbrev Way:=List (List Int)
abbrev ņ:=Val Â
def đ (m:ņ) (x:Way):Int:=(ĵ m x).getD 0
def WOk (m:ņ) (l:List Way):Prop:=∀x∈l,ĵ m x=some (đ m x)
section
variable {ρ:Type} {m:ņ}
def adg (a b:Int):g9 a b=some (if a<b then -1 else if b<a then 1 else 0):=by
 unfold g9 mq lz pM
 have e:∀x:Int,ine x x=false:=fun x=>by simp[ine]
 rw[e,e,À,À,é,é]
 by_cases h:a<b
 ·rw[Ú (decide_eq_true h),if_pos h]
 ·rw[Ð (decide_eq_false h),if_neg h]
  by_cases h2:b<a
  ·rw[Ú (decide_eq_true h2),if_pos h2]
  ·rw[Ð (decide_eq_false h2),if_neg h2]
def Sb {x y:Way} (hx:ĵ m x=some (đ m x)) (hy:ĵ m y=some (đ m y)):jo x y m=some (if đ m x<đ m y then -1 else if đ m y<đ m x then 1 else 0):=by
 unfold jo E9;rw[hx,À,hy,À,adg,À]
def YA {x y:Way} (hx:ĵ m x=some (đ m x)) (hy:ĵ m y=some (đ m y)) (X Y:Option ρ):(Ä (jo x y m) fun r=>ifb (ilt r (0:Int)) X Y)=if đ m x<đ m y then X else Y:=by
 rw[Sb hx hy,À]
 by_cases h:đ m x<đ m y
 ·rw[if_pos h,if_pos h]; rfl
 ·rw[if_neg h,if_neg h]
  by_cases h2:đ m y<đ m x
  ·rw[if_pos h2]; rfl
  ·rw[if_neg h2]; rfl
def ag9 {α:Type} (A:List α) (x:α) (B:List α):(A++x::B)[A.length]?=some x:=by simp
def agI {α:Type} (A:List α) (x y:α) (B:List α):(A++x::B).set A.length y=A++y::B:=by simp
def iI {α:Type} {l A B:List α} {x:α} {i:Int} (h:l=A++x::B) (hi:i=A.length) (K:α→Option ρ):(á ((ile (0:Int) i)&&(ilt i (í l))) (Ĺ l (Int.toNat i) K))=K x:=by
 subst h hi;rw[ý (by simp[ile,ilt,í]; omega),cW,iN (ag9 A x B)]
def GC {α:Type} {l A B:List α} {x:α} {i:Int} (h:l=A++x::B) (hi:i=A.length) (y:α):List.set l (Int.toNat i) y=A++y::B:=by
 subst h hi;rw[cW,agI]
def ins_L1 {c0:Int} {A C:List Way} {x y:Way} (hx:ĵ m x=some (đ m x)) (hy:ĵ m y=some (đ m y)) (hc:c0≤A.length) (hl:A.length≤1000000) (kn:Int→List Way→Option ρ) (k0:List Way→Option ρ) :
 æ c0 m.1.1.1 m.1.1.2 m.1.2.1 m.1.2.2.1 m.1.2.2.2.1 m.1.2.2.2.2.1 m.1.2.2.2.2.2 m.2 ((A.length:Int)+1) (A++y::x::C) kn k0 =
  if đ m x<đ m y then kn A.length (A++x::y::C) else k0 (A++y::x::C):=by
 have e1:((A.length:Int)+1-1)=A.length:=by omega
 have s1:A++y::x::C=(A++[y])++x::C:=by simp
 have l1:((A.length:Int)+1)=(A++[y]).length:=by simp
 unfold æ;rw[Ú (decide_eq_true (by omega)),iI s1 l1,e1,Ó (by omega) (by omega),iI (A:=A) (x:=y) (B:=x::C) rfl rfl];refine(YA hx hy _ _).trans ?_
 split
 ·rw[Ó (by omega) (by omega),Ó (by omega) (by omega),iI (A:=A) (x:=y) (B:=x::C) rfl rfl,iI s1 l1,iI s1 l1,GC s1 l1]
  have s2:A++[y]++y::C=A++y::y::C:=by simp
  rw[s2,iI (A:=A) (x:=y) (B:=y::C) rfl rfl,GC (A:=A) (x:=y) (B:=y::C) rfl rfl,Ó (by omega) (by omega)]
 ·rfl
def aeX {c0:Int} {P S Q:List Way} {x:Way} (hP:c0=P.length) (hS:Srt (đ m) S) (hW:WOk m (x::S)) (hl:P.length+S.length≤1000000) (K:List Way→Option ρ) :
 Ê (fun(v:Int×List Way) kk=>æ c0 m.1.1.1 m.1.1.2 m.1.2.1 m.1.2.2.1 m.1.2.2.2.1 m.1.2.2.2.2.1 m.1.2.2.2.2.2 m.2 v.1 v.2 (fun a b=>kk (a,b)) K) (((P.length+S.length:Nat):Int),P++(S++x::Q))=K (P++(Ļ (đ m) (S++[x])++Q)):=by
 subst hP;have hxW:=hW x (by simp)
 -- when it stops
 have stop:∀A B:List Way,S=A++B→(∀t∈B,đ m x<đ m t)→(∀t∈A,đ m t≤đ m x)→Ļ (đ m) (S++[x])=A++x::B:=fun A B hAB hB hA=>by
  subst hAB;obtain⟨h1,h2,h3⟩:=hS.parts;refine vr ?_ ?_
  ·refine h1.append (List.Pairwise.cons (fun t ht=>by have:=hB t ht; omega) h2) fun a ha b hb=>?_;rcases cO.1 hb with rfl|hb
   ·exact hA a ha
   ·exact h3 a ha b hb
  ·have:=Stb.swap (key:=đ m) (u:=B) (v:=[x]) (fun a ha b hb=>by simp at hb; subst hb; have:=hB a ha; omega);have h4:=(Stb.refl (key:=đ m) A).append this;rw[←cR] at h4;exact h4
 refine ė (fun v:Int×List Way=>∃A B:List Way,S=A++B∧(∀t∈B,đ m x<đ m t)∧v=(((P.length+A.length:Nat):Int),P++(A++x::(B++Q)))) (fun v=>v.1.toNat) ?_ ⟨S,[],by simp,by simp,by simp⟩;rintro v ⟨A,B,hAB,hB,rfl⟩
 cases hA:A.reverse with
 |nil =>
  have hA0:A=[]:=by simpa using hA
  subst hA0;refine .inl fun kn=>?_;dsimp only;unfold æ;rw[Ð (decide_eq_false (by simp)),stop [] B hAB hB (by simp)];simp
 |cons y A' =>
  have hA0:A=A'.reverse++[y]:=by
   have:=congrArg List.reverse hA;simpa using this
  generalize A'.reverse=A1 at hA0;subst hA0;have hyW:ĵ m y=some (đ m y):=hW y (by rw[hAB]; simp)
  have hstep:∀kn:Int×List Way→Option ρ,æ (P.length:Int) m.1.1.1 m.1.1.2 m.1.2.1 m.1.2.2.1 m.1.2.2.2.1 m.1.2.2.2.2.1 m.1.2.2.2.2.2 m.2 ((P.length+(A1++[y]).length:Nat):Int) (P++(A1++[y]++x::(B++Q))) (fun a b=>kn (a,b)) K =
   if đ m x<đ m y then kn (((P.length+A1.length:Nat):Int),P++(A1++x::(y::B++Q))) else K (P++(A1++[y]++x::(B++Q))):=fun kn=>by
   have e1:((P.length+(A1++[y]).length:Nat):Int)=((P++A1).length:Int)+1:=by simp; omega
   have e2:P++(A1++[y]++x::(B++Q))=(P++A1)++y::x::(B++Q):=by simp
   have hlen:A1.length≤S.length:=by rw[hAB]; simp
   rw[e1,e2,ins_L1 hxW hyW (by simp; omega) (by simp; omega)];simp
  by_cases hxy:đ m x<đ m y
  ·refine .inr ⟨(((P.length+A1.length:Nat):Int),P++(A1++x::(y::B++Q))),⟨A1,y::B,by rw[hAB]; simp,fun t ht=>?_,rfl⟩,by simp; omega,fun kn=>(hstep kn).trans (if_pos hxy)⟩;rcases cO.1 ht with rfl|ht
   ·exact hxy
   ·exact hB t ht
  ·refine .inl fun kn=>(hstep kn).trans ?_;rw[if_neg hxy,stop (A1++[y]) B hAB hB fun t ht=>?_]
   ·simp
   ·obtain⟨h1,_,_⟩:=Srt.parts (hAB▸hS);obtain⟨_,_,h3⟩:=Srt.parts h1;rcases cN.1 ht with ht|ht
    ·have:=h3 t ht y (by simp); omega
    ·simp at ht; subst ht; omega
def WOk.sub {l s:List Way} (h:WOk m l) (hs:∀x∈s,x∈l):WOk m s:=fun x hx=>h x (hs x hx)
def G7 {P M Q:List Way} (hW:WOk m M) (hl:P.length+M.length≤1000000):å (P++(M++Q)) P.length ((P.length+M.length:Nat):Int) m=some (P++(Ļ (đ m) M++Q),m):=by
 unfold å ũ;rw[Ó (by omega) (by omega)];refine ė (fun v:Int×List Way=>(M.length=0∧v=((P.length:Int)+1,P++(M++Q)))∨∃k:Nat,1≤k∧k≤M.length∧v=(((P.length+k:Nat):Int),P++(Ļ (đ m) (M.take k)++(M.drop k++Q)))) (fun v=>(P.length+M.length+1)-v.1.toNat) ?_ ?_
 ·rintro v (⟨h0,rfl⟩|⟨k,hk1,hk2,rfl⟩)
  ·refine .inl fun kn=>?_;have:M=[]:=List.length_eq_zero_iff.1 h0;subst this;dsimp only;unfold ĉ;rw[Ð (decide_eq_false (by simp; omega))];rfl
  ·rcases f8 hk2 with h|rfl
   ·have hg:M[k]?=some M[k]:=cG h;have hd:M.drop k=M[k]::M.drop (k+1):=dF h;have ht:M.take (k+1)=M.take k++[M[k]]:=take_succ hg;have hmem:M[k]∈M:=fj h;generalize M[k]=x at hg hd ht hmem
    have hlk:(Ļ (đ m) (M.take k)).length=k:=by rw[(Ō _).length]; simp; omega
    refine .inr ⟨(((P.length+(k+1):Nat):Int),P++(Ļ (đ m) (M.take (k+1))++(M.drop (k+1)++Q))),.inr ⟨k+1,by omega,h,rfl⟩,by dsimp only; omega,fun kn=>?_⟩;dsimp only;unfold ĉ;rw[Ú (decide_eq_true (by omega)),hd]
    have:=aeX (m:=m) (c0:=(P.length:Int)) (P:=P) (S:=Ļ (đ m) (M.take k)) (Q:=M.drop (k+1)++Q) (x:=x) rfl (jK _) (fun y hy=>by
     rcases cO.1 hy with rfl|hy
     ·exact hW _ hmem
     ·exact hW _ (fQ ((Ō _).mem.1 hy))) (by omega) (fun z13=>ck (((P.length+k:Nat):Int)+(1:Int)) fun n14=>kn (n14,z13))
    rw[hlk] at this;refine this.trans ?_;rw[Ó (by omega) (by omega)];congr 1;refine Prod.ext (by dsimp only; omega) ?_;dsimp only
    have e:Ļ (đ m) (Ļ (đ m) (M.take k)++[x])=Ļ (đ m) (M.take (k+1)):=by
     rw[ht];exact vr (jK _) (((Ō (M.take k)).append (Stb.refl [x])).symm.trans (Ō _))
    rw[e]
   ·refine .inl fun kn=>?_;dsimp only;unfold ĉ;rw[Ð (decide_eq_false (by omega))];simp
 ·cases M with
  |nil=>exact .inl ⟨rfl,rfl⟩
  |cons a M =>
   refine .inr ⟨1,cH _,by simp,?_⟩;refine Prod.ext (by simp) ?_;simp[Ļ,aab]
end
section
variable {ρ:Type} {m:ņ}
def rot_L2:@ω ρ=@Ĉ ρ:=rfl
def rot_L3:@ψ ρ=@Ĉ ρ:=rfl
def uh {A U B V C:List Way} (hn:V.length=U.length) {a b n:Int} (ha:a=A.length) (hb:b=((A.length+U.length+B.length:Nat):Int)) (hnn:n=U.length) (hl:A.length+U.length+B.length+V.length≤1000000) (K:List Way→Option ρ) :
 Ê (fun(v:Int×List Way) kk=>Ĉ a b n v.1 v.2 (fun x y=>kk (x,y)) K) ((0:Int),A++(U++(B++(V++C))))=K (A++(V++(B++(U++C)))):=by
 subst ha hb hnn;refine ģ (List.replicate U.length ()) (fun i=>A++(V.take i++(U.drop i++(B++(U.take i++(V.drop i++C)))))) _ (by simp) (fun i x hi hx kn=>?_) (fun kn=>?_)
 ·try dsimp only
  rw[fp] at hi;have hu:U.drop i=U[i]::U.drop (i+1):=dF hi;have hv:V.drop i=V[i]::V.drop (i+1):=dF (by omega);have htu:U.take (i+1)=U.take i++[U[i]]:=take_succ (cG hi);have htv:V.take (i+1)=V.take i++[V[i]]:=take_succ (cG (by omega));generalize U[i]=u at hu htu;generalize V[i]=v at hv htv
  have lu:(U.take i).length=i:=by simp; omega
  have lv:(V.take i).length=i:=by simp; omega
  have ldu:(U.drop (i+1)).length=U.length-(i+1):=by simp
  rw[hu,hv,htu,htv];generalize U.drop (i+1)=U2 at *;generalize V.drop (i+1)=V2 at *;generalize U.take i=U1 at *;generalize V.take i=V1 at *;unfold Ĉ
  -- the places
  have s1:A++(V1++(u::U2++(B++(U1++(v::V2++C)))))=(A++V1)++u::(U2++(B++(U1++(v::V2++C)))):=by simp
  have s2:A++(V1++(u::U2++(B++(U1++(v::V2++C)))))=(A++(V1++(u::U2++(B++U1))))++v::(V2++C):=by simp
  have p1:(A.length:Int)+i=(A++V1).length:=by simp; omega
  have p2:((A.length+U.length+B.length:Nat):Int)+i=(A++(V1++(u::U2++(B++U1)))).length:=by simp; omega
  have s3:(A++V1)++v::(U2++(B++(U1++(v::V2++C))))=(A++(V1++(v::U2++(B++U1))))++v::(V2++C):=by simp
  have p3:((A.length+U.length+B.length:Nat):Int)+i=(A++(V1++(v::U2++(B++U1)))).length:=by simp; omega
  rw[Ú (decide_eq_true (by omega)),Ó (by omega) (by omega),Ó (by omega) (by omega),Ó (by omega) (by omega),iI s2 p2,Ó (by omega) (by omega),iI s1 p1,iI s1 p1,GC s1 p1,iI s3 p3,GC s3 p3,Ó (by omega) (by omega)];simp
 ·try dsimp only
  unfold Ĉ;rw[List.length_replicate,Ð (decide_eq_false (by omega))];rw[List.take_of_length_le (l:=V) (by omega),List.drop_of_length_le (l:=U) (by omega),List.take_of_length_le (l:=U) (by omega),List.drop_of_length_le (l:=V) (by omega)];simp
def abw {A U V C:List Way} (hU:1≤U.length) (hV:1≤V.length) (hl:A.length+U.length+V.length≤1000000) :
 ķ (A++(U++(V++C))) A.length ((A.length+U.length:Nat):Int) ((A.length+U.length+V.length:Nat):Int) m=some (A++(V++(U++C)),m):=by
 unfold ķ iW;rw[Ó (by omega) (by omega),Ó (by omega) (by omega)];refine ė (fun v:Int×Int×List Way=>∃L X Y R:List Way,1≤X.length∧1≤Y.length∧L.length+X.length=U.length∧Y.length+R.length=V.length∧L++(Y++(X++R))=V++U∧v=((X.length:Int),(Y.length:Int),A++(L++(X++(Y++(R++C)))))) (fun v=>v.1.toNat+v.2.1.toNat) ?_ ⟨[],U,V,[],hU,hV,by simp,by simp,by simp,?_⟩
 rotate_left
 ·rw[Prod.mk.injEq,Prod.mk.injEq];refine⟨?_,?_,by simp⟩
  ·show((A.length+U.length:Nat):Int)-(A.length:Int)=(U.length:Int);omega
  ·show((A.length+U.length+V.length:Nat):Int)-((A.length+U.length:Nat):Int)=(V.length:Int);omega
 rintro v ⟨L,X,Y,R,hX,hY,h1,h2,h3,rfl⟩
 by_cases hxy:X.length=Y.length
 ·refine .inl fun kn=>?_;dsimp only;unfold Ĵ;rw[Ð (by simp[ine,hxy])];dsimp only;rw[rot_L3,Ó (by omega) (by omega)];have:=uh (A:=A++L) (U:=X) (B:=[]) (V:=Y) (C:=R++C) hxy.symm (a:=((A.length+U.length:Nat):Int)-X.length) (b:=((A.length+U.length:Nat):Int)) (n:=X.length) (by simp; omega) (by simp; omega) rfl (by simp; omega) (fun z48=>some (z48,m))
  have e1:(A++L)++(X++([]++(Y++(R++C))))=A++(L++(X++(Y++(R++C)))):=by simp
  rw[e1] at this;refine this.trans ?_
  have e2:A++L++(Y++([]++(X++(R++C))))=A++((L++(Y++(X++R)))++C):=by simp
  rw[e2,h3];simp
 ·by_cases hgt:Y.length<X.length
  ·-- the first part of X and Y change places
   have l1:(X.take Y.length).length=Y.length:=by simp; omega
   have l2:(X.drop Y.length).length=X.length-Y.length:=by simp
   have ex:X=X.take Y.length++X.drop Y.length:=(dQ _ _).symm;generalize X.take Y.length=X1 at l1 ex;generalize X.drop Y.length=X2 at l2 ex;subst ex;refine .inr ⟨((X2.length:Int),(X1.length:Int),A++((L++Y)++(X2++(X1++(R++C))))),⟨L++Y,X2,X1,R,by simp at l2 hgt; omega,by omega,by simp at h1 ⊢; omega,by omega,?_,rfl⟩,by simp at l2 ⊢; omega,fun kn=>?_⟩
   ·rw[←h3]; simp
   ·dsimp only;unfold Ĵ;have hg1:ine ((X1++X2).length:Int) (Y.length:Int)=true:=bne_iff_ne.2 (by omega);rw[Ú hg1,Ú (decide_eq_true (by omega)),Ó (by simp at h1 ⊢; omega) (by simp at h1 ⊢; omega)];have:=uh (A:=A++L) (U:=X1) (B:=X2) (V:=Y) (C:=R++C) l1.symm (a:=((A.length+U.length:Nat):Int)-(X1++X2).length) (b:=((A.length+U.length:Nat):Int)) (n:=Y.length) (by simp at h1 ⊢; omega) (by simp at h1 ⊢; omega) (by omega) (by simp at h1 ⊢; omega) (fun z13=>ck (((X1++X2).length:Int)-(Y.length:Int)) fun n14=>kn (n14,((Y.length:Int),z13)))
    have e1:(A++L)++(X1++(X2++(Y++(R++C))))=A++(L++(X1++X2++(Y++(R++C)))):=by simp
    rw[e1] at this;refine this.trans ?_;rw[Ó (by simp; omega) (by simp; omega)];congr 1;rw[Prod.mk.injEq,Prod.mk.injEq];exact⟨by simp; omega,by omega,by simp⟩
  ·have l1:(Y.drop (Y.length-X.length)).length=X.length:=by simp; omega
   have l2:(Y.take (Y.length-X.length)).length=Y.length-X.length:=by simp
   have ey:Y=Y.take (Y.length-X.length)++Y.drop (Y.length-X.length):=(dQ _ _).symm;generalize Y.take (Y.length-X.length)=Y1 at l2 ey;generalize Y.drop (Y.length-X.length)=Y2 at l1 ey;subst ey;refine .inr ⟨((Y2.length:Int),(Y1.length:Int),A++(L++(Y2++(Y1++((X++R)++C))))),⟨L,Y2,Y1,X++R,by omega,by simp at l2 hxy hgt; omega,by omega,by simp at h2 ⊢; omega,?_,rfl⟩,by simp at l2 ⊢; omega,fun kn=>?_⟩
   ·rw[←h3]; simp
   ·dsimp only;unfold Ĵ;have hg1:ine (X.length:Int) ((Y1++Y2).length:Int)=true:=bne_iff_ne.2 (by omega);rw[Ú hg1,Ð (decide_eq_false (by omega)),rot_L2,Ó (by omega) (by omega),Ó (by simp at h2 ⊢; omega) (by simp at h2 ⊢; omega),Ó (by simp at h2 ⊢; omega) (by simp at h2 ⊢; omega)];have:=uh (A:=A++L) (U:=X) (B:=Y1) (V:=Y2) (C:=R++C) l1 (a:=((A.length+U.length:Nat):Int)-X.length) (b:=((A.length+U.length:Nat):Int)+((Y1++Y2).length:Int)-X.length) (n:=X.length) (by simp; omega) (by simp; omega) rfl (by simp at h2 ⊢; omega) (fun z31=>ck (((Y1++Y2).length:Int)-(X.length:Int)) fun n32=>kn ((X.length:Int),(n32,z31)))
    have e1:(A++L)++(X++(Y1++(Y2++(R++C))))=A++(L++(X++(Y1++Y2++(R++C)))):=by simp
    rw[e1] at this;refine this.trans ?_;rw[Ó (by simp; omega) (by simp; omega)];congr 1;rw[Prod.mk.injEq,Prod.mk.injEq];exact⟨by omega,by simp; omega,by simp⟩
end
def ag8 {n:Nat} (h:n≤10000000):IntKind.wrap .i64 (ij .u64 (IntKind.wrap .u64 (n:Int)) (1:Int))=((n / 2:Nat):Int):=by
 have e1:IntKind.wrap .u64 (n:Int)=n:=by
  simp[IntKind.wrap,IntKind.bits,IntKind.signed];omega
 rw[e1]
 have e2:ij .u64 (n:Int) 1=((n / 2:Nat):Int):=by
  unfold ij
  have:(2:Int) ^ (min (Int.toNat 1) IntKind.u64.bits)=2:=by decide
  rw[this,Int.fdiv_eq_ediv_of_nonneg _ (by omega)];omega
 rw[e2];simp[IntKind.wrap,IntKind.bits,IntKind.signed];omega
section
variable {ρ:Type} {m:ņ}
abbrev adY:=List Way→Int→Int→Int→ņ→Option (List Way×ņ)
def Zb (p:Nat→Prop) [DecidablePred p] {lo:Nat}:∀(n:Nat),(∀c c',lo≤c→c≤c'→c'<lo+n→p c'→p c)→∃s,lo≤s∧s≤lo+n∧(∀c,lo≤c→c<s→p c)∧∀c,s≤c→c<lo+n→¬p c
 |0,_=>⟨lo,cH _,cH _,fun c h1 h2=>by omega,fun c h1 h2=>by omega⟩
 |n+1,hm=>by
  obtain⟨s,h1,h2,h3,h4⟩:=Zb p (lo:=lo) n fun c c' a1 a2 a3=>hm c c' a1 a2 (by omega)
  by_cases hp:p (lo+n)
  ·exact⟨lo+n+1,by omega,by omega,fun c q1 q2=>hm c (lo+n) q1 (by omega) (by omega) hp,fun c q1 q2=>by omega⟩
  ·refine⟨s,h1,by omega,h3,fun c q1 q2=>?_⟩
   by_cases e:c=lo+n
   ·rw[e]; exact hp
   ·exact h4 c q1 (by omega)
def Xs {f:Int×Int→(Int×Int→Option ρ)→Option ρ} {K:Int→Option ρ} {lo hi:Nat} (hlh:lo≤hi) (p:Nat→Prop) [DecidablePred p] (mono:∀c c',lo≤c→c≤c'→c'<hi→p c'→p c)
 (step:∀i j:Nat,lo≤i→i<j→j≤hi→∀kn,f ((i:Int),(j:Int)) kn=if p ((i+j) / 2) then kn ((((i+j) / 2+1:Nat):Int),(j:Int)) else kn ((i:Int),(((i+j) / 2:Nat):Int)))
 (stop:∀i:Nat,lo≤i→i≤hi→∀kn,f ((i:Int),(i:Int)) kn=K i) :
 ∃s,lo≤s∧s≤hi∧(∀c,lo≤c→c<s→p c)∧(∀c,s≤c→c<hi→¬p c)∧Ê f ((lo:Int),(hi:Int))=K (s:Nat):=by
 obtain⟨s,h1,h2,h3,h4⟩:=Zb p (lo:=lo) (hi-lo) fun c c' a1 a2 a3=>mono c c' a1 a2 (by omega);refine⟨s,h1,by omega,h3,fun c q1 q2=>h4 c q1 (by omega),?_⟩;refine ė (fun v:Int×Int=>∃i j:Nat,lo≤i∧i≤s∧s≤j∧j≤hi∧v=((i:Int),(j:Int))) (fun v=>v.2.toNat-v.1.toNat) ?_ ⟨lo,hi,cH _,h1,by omega,cH _,rfl⟩;rintro v ⟨i,j,q1,q2,q3,q4,rfl⟩;rcases dg i j with h|h
 ·by_cases hp:p ((i+j) / 2)
  ·refine .inr ⟨_,⟨(i+j) / 2+1,j,by omega,?_,q3,q4,rfl⟩,by dsimp only; omega,fun kn=>by rw[step i j q1 h q4,if_pos hp]⟩;rcases Nat.lt_or_ge ((i+j) / 2) s with h5|h5
   ·omega
   ·exact absurd hp (h4 _ h5 (by omega))
  ·refine .inr ⟨_,⟨i,(i+j) / 2,q1,q2,?_,by omega,rfl⟩,by dsimp only; omega,fun kn=>by rw[step i j q1 h q4,if_neg hp]⟩;rcases Nat.lt_or_ge ((i+j) / 2) s with h5|h5
   ·exact absurd (h3 _ (by omega) h5) hp
   ·exact h5
 ·obtain rfl:i=j:=by omega
  obtain rfl:i=s:=by omega
  exact .inl fun kn=>stop i q1 q4 kn
def ZT (rec:adY) {P B C:List Way} {x:Way} {c0:Int} (hc:c0=((P.length+B.length+1:Nat):Int)) (hl:P.length+B.length≤1000000) (K:List Way→Option ρ) :
 Ê (fun(v:Int×List Way) kk=>ì rec c0 v.1 v.2 (fun a b=>kk (a,b)) K) ((P.length:Int),P++(x::(B++C)))=K (P++(B++x::C)):=by
 subst hc;refine ė (fun v:Int×List Way=>∃B1 B2:List Way,B=B1++B2∧v=(((P.length+B1.length:Nat):Int),P++(B1++x::(B2++C)))) (fun v=>(P.length+B.length+1)-v.1.toNat) ?_ ⟨[],B,rfl,rfl⟩;rintro v ⟨B1,B2,hB,rfl⟩
 cases B2 with
 |nil =>
  refine .inl fun kn=>?_;rw[List.append_nil] at hB;subst hB;dsimp only;unfold ì;rw[Ó (by omega) (by omega),Ð (decide_eq_false (by omega))];rfl
 |cons y B2 =>
  have hlen:B.length=B1.length+B2.length+1:=by rw[hB]; simp; omega
  refine .inr ⟨(((P.length+(B1++[y]).length:Nat):Int),P++((B1++[y])++x::(B2++C))),⟨B1++[y],B2,by rw[hB]; simp,rfl⟩,by simp; omega,fun kn=>?_⟩;dsimp only;unfold ì
  have s1:P++(B1++x::(y::B2++C))=(P++B1)++x::(y::(B2++C)):=by simp
  have p1:((P.length+B1.length:Nat):Int)=(P++B1).length:=by simp
  have s2:P++(B1++x::(y::B2++C))=(P++B1++[x])++y::(B2++C):=by simp
  have p2:((P.length+B1.length:Nat):Int)+1=(P++B1++[x]).length:=by simp; omega
  have s3:(P++B1)++y::(y::(B2++C))=(P++B1++[y])++y::(B2++C):=by simp
  have p3:((P.length+B1.length:Nat):Int)+1=(P++B1++[y]).length:=by simp; omega
  rw[Ó (by omega) (by omega),Ú (decide_eq_true (by omega)),Ó (by omega) (by omega),Ó (by omega) (by omega),iI s2 p2,iI s1 p1,iI s1 p1,GC s1 p1,iI s3 p3,GC s3 p3,Ó (by omega) (by omega)];congr 1
  ·simp; omega
  ·simp
def ab2 (rec:adY) {P B C:List Way} {x:Way} {c0:Int} (hc:c0=(P.length:Int)) (hl:P.length+B.length≤1000000) (K:List Way→Option ρ) :
 Ê (fun(v:Int×List Way) kk=>ë rec c0 v.1 v.2 (fun a b=>kk (a,b)) K) (((P.length+B.length:Nat):Int),P++(B++x::C))=K (P++(x::(B++C))):=by
 subst hc;refine ė (fun v:Int×List Way=>∃B1 B2:List Way,B=B1++B2∧v=(((P.length+B1.length:Nat):Int),P++(B1++x::(B2++C)))) (fun v=>v.1.toNat) ?_ ⟨B,[],by simp,by simp⟩;rintro v ⟨B1,B2,hB,rfl⟩
 cases hB1:B1.reverse with
 |nil =>
  have:B1=[]:=by simpa using hB1
  subst this;refine .inl fun kn=>?_;dsimp only;unfold ë;rw[Ð (decide_eq_false (by simp)),hB];simp
 |cons y B3 =>
  have hA0:B1=B3.reverse++[y]:=by
   have:=congrArg List.reverse hB1;simpa using this
  generalize B3.reverse=A1 at hA0;subst hA0
  have hlen:B.length=A1.length+1+B2.length:=by rw[hB]; simp; omega
  refine .inr ⟨(((P.length+A1.length:Nat):Int),P++(A1++x::(y::B2++C))),⟨A1,y::B2,by rw[hB]; simp,rfl⟩,by simp; omega,fun kn=>?_⟩;dsimp only;unfold ë
  have e0:((P.length+(A1++[y]).length:Nat):Int)-1=((P.length+A1.length:Nat):Int):=by simp; omega
  have s1:P++(A1++[y]++x::(B2++C))=(P++A1)++y::(x::(B2++C)):=by simp
  have p1:((P.length+A1.length:Nat):Int)=(P++A1).length:=by simp
  have s2:P++(A1++[y]++x::(B2++C))=(P++A1++[y])++x::(B2++C):=by simp
  have p2:((P.length+(A1++[y]).length:Nat):Int)=(P++A1++[y]).length:=by simp
  have s3:(P++A1++[y])++y::(B2++C)=(P++A1)++y::(y::(B2++C)):=by simp
  rw[Ú (decide_eq_true (by simp; omega)),e0,Ó (by omega) (by omega),Ó (by omega) (by omega),iI s1 p1,iI s2 p2,iI s2 p2,GC s2 p2,iI s3 p1,GC s3 p1,Ó (by omega) (by omega)];congr 1;simp
end
section
variable {ρ:Type} {m:ņ}
def symS (rec:adY) (mid e b:Int) (k:List Way×ņ→Option ρ) (l:List Way) (mm:ņ):Option ρ :=
 ifb (ilt mid e) (ifb (ilt e b) (Ä (rec l mid e b mm) fun r=>k (r.1,r.2)) (k (l,mm))) (k (l,mm))
def symR (rec:adY) (a z mid e b:Int) (k:List Way×ņ→Option ρ) (l:List Way) (mm:ņ):Option ρ :=
 ifb (ilt a z) (ifb (ilt z mid) (Ä (rec l a z mid mm) fun r=>symS rec mid e b k r.1 r.2) (symS rec mid e b k l mm)) (symS rec mid e b k l mm)
def agC (rec:adY) (l:List Way) (a c b mid n:Int) (mm:ņ) (k:List Way×ņ→Option ρ) (z:Int):Option ρ :=
 ck (n-z) fun e=>ifb (ilt z c) (ifb (ilt c e) (Ä (ķ l z c e mm) fun r=>symR rec a z mid e b k r.1 r.2) (symR rec a z mid e b k l mm)) (symR rec a z mid e b k l mm)
def aae (n:Int):Int:=IntKind.wrap .i64 (ij .u64 (IntKind.wrap .u64 n) (1:Int))
def sym_eq (rec:adY) (l:List Way) (a c b:Int) (mm:ņ) (k:List Way×ņ→Option ρ):Ģ rec l a c b mm k =
 ck (c-a) fun n1=>ifb (ieq n1 (1:Int)) (Ê (fun(v:Int×Int) kk=>ô rec a l mm.1.1.1 mm.1.1.2 mm.1.2.1 mm.1.2.2.1 mm.1.2.2.2.1 mm.1.2.2.2.2.1 mm.1.2.2.2.2.2 mm.2 v.1 v.2 (fun x y=>kk (x,y)) (fun z7=>Ê (fun(v:Int×List Way) kk=>ì rec z7 v.1 v.2 (fun x y=>kk (x,y)) (fun z16=>k (z16,mm))) (a,l))) (c,b))
  (ck (b-c) fun n25=>ifb (ieq n25 (1:Int)) (Ê (fun(v:Int×Int) kk=>ó rec c l mm.1.1.1 mm.1.1.2 mm.1.2.1 mm.1.2.2.1 mm.1.2.2.2.1 mm.1.2.2.2.2.1 mm.1.2.2.2.2.2 mm.2 v.1 v.2 (fun x y=>kk (x,y)) (fun z31=>Ê (fun(v:Int×List Way) kk=>ë rec z31 v.1 v.2 (fun x y=>kk (x,y)) (fun z39=>k (z39,mm))) (c,l))) (a,c))
   (ck (a+b) fun n48=>ck (aae n48+c) fun n49=>ifb (igt c (aae n48))
    (ck (n49-b) fun n50=>ck (n49-(1:Int)) fun n51=>Ê (fun(v:Int×Int) kk=>Þ rec n51 l mm.1.1.1 mm.1.1.2 mm.1.2.1 mm.1.2.2.1 mm.1.2.2.2.1 mm.1.2.2.2.2.1 mm.1.2.2.2.2.2 mm.2 v.1 v.2 (fun x y=>kk (x,y)) (agC rec l a c b (aae n48) n49 mm k)) (n50,aae n48))
    (ck (n49-(1:Int)) fun n77=>Ê (fun(v:Int×Int) kk=>Þ rec n77 l mm.1.1.1 mm.1.1.2 mm.1.2.1 mm.1.2.2.1 mm.1.2.2.2.1 mm.1.2.2.2.2.1 mm.1.2.2.2.2.2 mm.2 v.1 v.2 (fun x y=>kk (x,y)) (agC rec l a c b (aae n48) n49 mm k)) (a,c)))):=rfl
def RecOk (rec:adY) (m:ņ) (N:Nat):Prop:=∀P U V Q:List Way,1≤U.length→1≤V.length→U.length+V.length≤N→Srt (đ m) U→Srt (đ m) V→WOk m (U++V)→P.length+U.length+V.length≤1000000 →
 rec (P++(U++(V++Q))) P.length ((P.length+U.length:Nat):Int) ((P.length+U.length+V.length:Nat):Int) m=some (P++(Ļ (đ m) (U++V)++Q),m)
def rA {l:List Way} (h:Srt (đ m) l):Ļ (đ m) l=l:=vr h (Stb.refl l)
def pS (l:List Way):(Ļ (đ m) l).length=l.length:=(Ō l).length
def aeh {rec:adY} {N:Nat} (hrec:RecOk rec m N) {P u1 u2 v1 v2 Q:List Way} (s1:u1.length+v1.length≤N) (s2:u2.length+v2.length≤N) (hU:Srt (đ m) (u1++u2)) (hV:Srt (đ m) (v1++v2))
 (F1:∀x∈u2,∀y∈v1,đ m y<đ m x) (F2:∀x∈u1,∀y∈v2,đ m x≤đ m y) (hW:WOk m ((u1++u2)++(v1++v2))) (hl:P.length+u1.length+u2.length+v1.length+v2.length≤1000000)
 {a c b mid n z:Int} (ea:a=P.length) (ec:c=((P.length+u1.length+u2.length:Nat):Int)) (eb:b=((P.length+u1.length+u2.length+v1.length+v2.length:Nat):Int)) (emid:mid=((P.length+u1.length+v1.length:Nat):Int)) (ez:z=((P.length+u1.length:Nat):Int)) (en:n-z=((P.length+u1.length+u2.length+v1.length:Nat):Int)) :
 agC rec (P++((u1++u2)++((v1++v2)++Q))) a c b mid n m some z=some (P++(Ļ (đ m) ((u1++u2)++(v1++v2))++Q),m):=by
 obtain⟨hU1,hU2,hU3⟩:=hU.parts;obtain⟨hV1,hV2,hV3⟩:=hV.parts;subst ea ec eb emid ez
 have fin:Ļ (đ m) ((u1++u2)++(v1++v2))=Ļ (đ m) (u1++v1)++Ļ (đ m) (u2++v2):=by
  refine vr ?_ ?_
  ·refine(jK _).append (jK _) fun x hx y hy=>?_;have hx:=(Ō _).mem.1 hx;have hy:=(Ō _).mem.1 hy
   rcases cN.1 hx with hx|hx<;>rcases cN.1 hy with hy|hy
   ·exact hU3 x hx y hy
   ·exact F2 x hx y hy
   ·have:=F1 y hy x hx; omega
   ·exact hV3 x hx y hy
  ·have q:Stb (đ m) (u2++v1) (v1++u2):=Stb.swap fun x hx y hy=>by have:=F1 x hx y hy; omega
   have q2:=((Stb.refl (key:=đ m) u1).append (q.append (Stb.refl v2)))
   have e1:u1++(u2++v1++v2)=u1++u2++(v1++v2):=by simp
   have e2:u1++(v1++u2++v2)=(u1++v1)++(u2++v2):=by simp
   rw[e1,e2] at q2;exact q2.trans ((Ō _).append (Ō _))
 have lI:(Ļ (đ m) (u1++v1)).length=u1.length+v1.length:=by rw[pS]; simp
 have hS:symS rec ((P.length+u1.length+v1.length:Nat):Int) ((P.length+u1.length+u2.length+v1.length:Nat):Int) ((P.length+u1.length+u2.length+v1.length+v2.length:Nat):Int) some (P++(Ļ (đ m) (u1++v1)++(u2++(v2++Q)))) m=some (P++(Ļ (đ m) ((u1++u2)++(v1++v2))++Q),m):=by
  rw[fin];unfold symS
  by_cases h1:u2=[]
  ·subst h1;rw[Ð (decide_eq_false (by simp))];simp only[dS,cR];rw[rA hV2]
  by_cases h2:v2=[]
  ·subst h2;have q:ilt ((P.length+u1.length+u2.length+v1.length:Nat):Int) ((P.length+u1.length+u2.length+v1.length+([]:List Way).length:Nat):Int)=false:=decide_eq_false (by simp);rw[q,é];simp only[dS,dh,cR];rw[rA hU2]
   cases ilt ((P.length+u1.length+v1.length:Nat):Int) ((P.length+u1.length+u2.length+v1.length:Nat):Int)<;>rfl
  have k1:1≤u2.length:=ee.2 h1;have k2:1≤v2.length:=ee.2 h2
  have:=hrec (P++Ļ (đ m) (u1++v1)) u2 v2 Q k1 k2 s2 hU2 hV2 (hW.sub fun x hx=>by
   rcases cN.1 hx with hx|hx<;>simp[hx]) (by rw[cM,lI]; omega)
  rw[Ú (decide_eq_true (by omega)),Ú (decide_eq_true (by omega))]
  have e1:P++(Ļ (đ m) (u1++v1)++(u2++(v2++Q)))=(P++Ļ (đ m) (u1++v1))++(u2++(v2++Q)):=by simp
  rw[e1,show((P.length+u1.length+v1.length:Nat):Int)=((P++Ļ (đ m) (u1++v1)).length:Int) by rw[cM,lI]; omega,
   show((P.length+u1.length+u2.length+v1.length:Nat):Int)=(((P++Ļ (đ m) (u1++v1)).length+u2.length:Nat):Int) by rw[cM,lI]; omega,
   show((P.length+u1.length+u2.length+v1.length+v2.length:Nat):Int)=(((P++Ļ (đ m) (u1++v1)).length+u2.length+v2.length:Nat):Int) by rw[cM,lI]; omega,this,À]
  simp
 have hR:symR rec (P.length:Int) ((P.length+u1.length:Nat):Int) ((P.length+u1.length+v1.length:Nat):Int) ((P.length+u1.length+u2.length+v1.length:Nat):Int) ((P.length+u1.length+u2.length+v1.length+v2.length:Nat):Int) some (P++(u1++(v1++(u2++(v2++Q))))) m=some (P++(Ļ (đ m) ((u1++u2)++(v1++v2))++Q),m):=by
  unfold symR
  by_cases h1:u1=[]
  ·have q:ilt (P.length:Int) ((P.length+u1.length:Nat):Int)=false:=decide_eq_false (by rw[h1]; simp)
   have e:P++(Ļ (đ m) (u1++v1)++(u2++(v2++Q)))=P++(u1++(v1++(u2++(v2++Q)))):=by
    subst h1;simp only[dS];rw[rA hV1]
   rw[e] at hS;rw[q,é,hS]
  by_cases h2:v1=[]
  ·have e:P++(Ļ (đ m) (u1++v1)++(u2++(v2++Q)))=P++(u1++(v1++(u2++(v2++Q)))):=by
    subst h2;simp only[dh,dS];rw[rA hU1]
   rw[e] at hS;have q:ilt ((P.length+u1.length:Nat):Int) ((P.length+u1.length+v1.length:Nat):Int)=false:=decide_eq_false (by rw[h2]; simp);rw[q,é,hS]
   cases ilt (P.length:Int) ((P.length+u1.length:Nat):Int)<;>rfl
  have k1:1≤u1.length:=ee.2 h1;have k2:1≤v1.length:=ee.2 h2;rw[Ú (decide_eq_true (by omega)),Ú (decide_eq_true (by omega))]
  rw[hrec P u1 v1 (u2++(v2++Q)) k1 k2 s1 hU1 hV1 (hW.sub fun x hx=>by
   rcases cN.1 hx with hx|hx<;>simp[hx]) (by omega),À]
  exact hS
 unfold agC;rw[en,Ó (by omega) (by omega)]
 by_cases h1:u2=[]
 ·have q:ilt ((P.length+u1.length:Nat):Int) ((P.length+u1.length+u2.length:Nat):Int)=false:=decide_eq_false (by rw[h1]; simp)
  have e:P++((u1++u2)++((v1++v2)++Q))=P++(u1++(v1++(u2++(v2++Q)))):=by rw[h1]; simp
  rw[q,é,e,hR]
 by_cases h2:v1=[]
 ·have e:P++((u1++u2)++((v1++v2)++Q))=P++(u1++(v1++(u2++(v2++Q)))):=by rw[h2]; simp
  have q:ilt ((P.length+u1.length+u2.length:Nat):Int) ((P.length+u1.length+u2.length+v1.length:Nat):Int)=false:=decide_eq_false (by rw[h2]; simp);rw[q,é,e,hR]
  cases ilt ((P.length+u1.length:Nat):Int) ((P.length+u1.length+u2.length:Nat):Int)<;>rfl
 have k1:1≤u2.length:=ee.2 h1;have k2:1≤v1.length:=ee.2 h2;rw[Ú (decide_eq_true (by omega)),Ú (decide_eq_true (by omega))];have:=abw (m:=m) (A:=P++u1) (U:=u2) (V:=v1) (C:=v2++Q) k1 k2 (by simp; omega);rw[cM] at this
 have e1:P++((u1++u2)++((v1++v2)++Q))=(P++u1)++(u2++(v1++(v2++Q))):=by simp
 rw[e1,this,À]
 have e2:(P++u1)++(v1++(u2++(v2++Q)))=P++(u1++(v1++(u2++(v2++Q)))):=by simp
 rw[e2];exact hR
end
section
variable {ρ:Type} {m:ņ}
def giW (l:List Way) (i:Nat):Way:=(l[i]?).getD []
def E4 {l:List Way} {i:Nat} (h:i<l.length) (K:Way→Option ρ):(á ((ile (0:Int) (i:Int))&&(ilt (i:Int) (í l))) (Ĺ l (Int.toNat (i:Int)) K))=K (giW l i):=by
 rw[ý (by simp[ile,ilt,í]; omega),cW,iN (cG h)];simp[giW,cG h]
def Iu {i j:Nat} (h:i+j≤10000000):IntKind.wrap .i64 (ij .u64 (IntKind.wrap .u64 ((i:Int)+(j:Int))) (1:Int))=(((i+j) / 2:Nat):Int):=by
 rw[←ag8 h]; push_cast; rfl
def KOk (m:ņ) (x:Way):Prop:=ĵ m x=some (đ m x)
def Tf {x y:Way} (hx:KOk m x) (hy:KOk m y) (X Y:Option ρ):(Ä (jo x y m) fun r=>ifb (!(ilt r (0:Int))) X Y)=if đ m x≥đ m y then X else Y:=by
 rw[Sb hx hy,À]
 by_cases h:đ m x<đ m y
 ·rw[if_pos h,if_neg (show ¬đ m x≥đ m y by omega)]; rfl
 ·rw[if_neg h,if_pos (show đ m x≥đ m y by omega)]
  by_cases h2:đ m y<đ m x
  ·rw[if_pos h2]; rfl
  ·rw[if_neg h2]; rfl
def agL (rec:adY) {l:List Way} {a i j:Nat} (hij:i<j) (hj:j≤l.length) (ha:a<l.length) (hl:j≤2000000) (wa:KOk m (giW l a)) (wh:KOk m (giW l ((i+j) / 2))) (kn:Int→Int→Option ρ) (k0:Int→Option ρ) :
 ô rec (a:Int) l m.1.1.1 m.1.1.2 m.1.2.1 m.1.2.2.1 m.1.2.2.2.1 m.1.2.2.2.2.1 m.1.2.2.2.2.2 m.2 (i:Int) (j:Int) kn k0=if đ m (giW l ((i+j) / 2))<đ m (giW l a) then kn (((i+j) / 2+1:Nat):Int) j else kn i (((i+j) / 2:Nat):Int):=by
 unfold ô;rw[Ú (decide_eq_true (by omega)),Ó (by omega) (by omega),Iu (by omega),E4 (by omega),E4 ha];refine(YA wh wa _ _).trans ?_;rw[Ó (by omega) (by omega)];rfl
def agK (rec:adY) {l:List Way} {c i j:Nat} (hij:i<j) (hj:j≤l.length) (hc:c<l.length) (hl:j≤2000000) (wc:KOk m (giW l c)) (wh:KOk m (giW l ((i+j) / 2))) (kn:Int→Int→Option ρ) (k0:Int→Option ρ) :
 ó rec (c:Int) l m.1.1.1 m.1.1.2 m.1.2.1 m.1.2.2.1 m.1.2.2.2.1 m.1.2.2.2.2.1 m.1.2.2.2.2.2 m.2 (i:Int) (j:Int) kn k0=if đ m (giW l c)≥đ m (giW l ((i+j) / 2)) then kn (((i+j) / 2+1:Nat):Int) j else kn i (((i+j) / 2:Nat):Int):=by
 unfold ó;rw[Ú (decide_eq_true (by omega)),Ó (by omega) (by omega),Iu (by omega),E4 hc,E4 (by omega)];refine(Tf wc wh _ _).trans ?_;rw[Ó (by omega) (by omega)];rfl
def agJ (rec:adY) {l:List Way} {p i j:Nat} (hij:i<j) (hj:j≤l.length) (hp:(i+j) / 2≤p) (hp2:p-(i+j) / 2<l.length) (hl:j≤2000000) (hpb:p≤4000000) (wc:KOk m (giW l (p-(i+j) / 2))) (wh:KOk m (giW l ((i+j) / 2))) (kn:Int→Int→Option ρ) (k0:Int→Option ρ) :
 Þ rec (p:Int) l m.1.1.1 m.1.1.2 m.1.2.1 m.1.2.2.1 m.1.2.2.2.1 m.1.2.2.2.2.1 m.1.2.2.2.2.2 m.2 (i:Int) (j:Int) kn k0=if đ m (giW l (p-(i+j) / 2))≥đ m (giW l ((i+j) / 2)) then kn (((i+j) / 2+1:Nat):Int) j else kn i (((i+j) / 2:Nat):Int):=by
 unfold Þ;rw[Ú (decide_eq_true (by omega)),Ó (by omega) (by omega),Iu (by omega),show(p:Int)-(((i+j) / 2:Nat):Int)=((p-(i+j) / 2:Nat):Int) by omega,Ó (by omega) (by omega),E4 hp2,E4 (by omega)];refine(Tf wc wh _ _).trans ?_;rw[Ó (by omega) (by omega)];rfl
def qz {α:Type} {l:List α} {n:Nat} {y:α} (h:y∈l.take n):∃j,j<n∧j<l.length∧l[j]?=some y:=by
 obtain⟨j,hj,e⟩:=cT.1 h;simp only[dc] at hj;refine⟨j,by omega,by omega,?_⟩;rw[eT] at e;rw[cG (by omega),e]
def qA {α:Type} {l:List α} {n:Nat} {y:α} (h:y∈l.drop n):∃j,n≤j∧j<l.length∧l[j]?=some y:=by
 obtain⟨j,hj,e⟩:=cT.1 h;simp only[gu] at hj;refine⟨n+j,by omega,by omega,?_⟩;rw[List.getElem_drop] at e;rw[cG (by omega),e]
def abl {l:List Way} (h:Srt (đ m) l) {i j:Nat} {x y:Way} (hi:l[i]?=some x) (hj:l[j]?=some y) (hij:i≤j):đ m x≤đ m y:=by
 obtain⟨h1,rfl⟩:=cJ.1 hi;obtain⟨h2,rfl⟩:=cJ.1 hj;rcases f8 hij with hlt|rfl
 ·exact du.1 h i j h1 h2 hlt
 ·exact dK _
def Gy:∀(f N:Nat),N≤2 ^ f→RecOk (ġ (f+1)) m N
 |0,N,hN=>fun P U V Q hU hV hn=>by simp at hN; omega
 |f+1,N,hN=>fun P U V Q hU hV hn sU sV hW hl=>by
  have hrec:=Gy f (2 ^ f) (cH _)
  have hpow:2 ^ (f+1)=2*2 ^ f:=by rw[Nat.pow_succ]; omega
  show Ģ (ġ (f+1)) _ _ _ _ m some=_;generalize ġ (f+1)=rec at hrec;obtain⟨l,hle⟩:∃l,l=P++(U++(V++Q)):=⟨_,rfl⟩
  have hll:P.length+U.length+V.length≤l.length:=by rw[hle]; simp; omega
  rw[sym_eq]
  -- what lies where
  have gU:∀i x,U[i]?=some x→giW l (P.length+i)=x:=fun i x hx=>by
   have hi:=(List.getElem?_eq_some_iff.1 hx).1;unfold giW;rw[hle,List.getElem?_append_right (by omega),List.getElem?_append_left (by omega),show P.length+i-P.length=i by omega,hx];rfl
  have gV:∀i x,V[i]?=some x→giW l (P.length+U.length+i)=x:=fun i x hx=>by
   have hi:=(List.getElem?_eq_some_iff.1 hx).1;unfold giW;rw[hle,List.getElem?_append_right (by omega),List.getElem?_append_right (by omega),List.getElem?_append_left (by omega),show P.length+U.length+i-P.length-U.length=i by omega,hx];rfl
  have kU:∀c c',P.length≤c→c≤c'→c'<P.length+U.length→đ m (giW l c)≤đ m (giW l c'):=fun c c' h1 h2 h3=>by
   have q1:U[c-P.length]?=some U[c-P.length]:=cG (by omega);have q2:U[c'-P.length]?=some U[c'-P.length]:=cG (by omega);have e1:=gU _ _ q1;have e2:=gU _ _ q2;rw[show P.length+(c-P.length)=c by omega] at e1;rw[show P.length+(c'-P.length)=c' by omega] at e2;rw[e1,e2];exact abl sU q1 q2 (by omega)
  have kV:∀c c',P.length+U.length≤c→c≤c'→c'<P.length+U.length+V.length→đ m (giW l c)≤đ m (giW l c'):=fun c c' h1 h2 h3=>by
   have q1:V[c-(P.length+U.length)]?=some V[c-(P.length+U.length)]:=cG (by omega);have q2:V[c'-(P.length+U.length)]?=some V[c'-(P.length+U.length)]:=cG (by omega);have e1:=gV _ _ q1;have e2:=gV _ _ q2;rw[show P.length+U.length+(c-(P.length+U.length))=c by omega] at e1;rw[show P.length+U.length+(c'-(P.length+U.length))=c' by omega] at e2;rw[e1,e2];exact abl sV q1 q2 (by omega)
  have kW:∀c,P.length≤c→c<P.length+U.length+V.length→KOk m (giW l c):=fun c h1 h2=>by
   rcases dg c (P.length+U.length) with h3|h3
   ·have q1:U[c-P.length]?=some U[c-P.length]:=cG (by omega);have e1:=gU _ _ q1;rw[show P.length+(c-P.length)=c by omega] at e1;rw[e1];exact hW _ (dD _ (fj _))
   ·have q1:V[c-(P.length+U.length)]?=some V[c-(P.length+U.length)]:=cG (by omega);have e1:=gV _ _ q1;rw[show P.length+U.length+(c-(P.length+U.length))=c by omega] at e1;rw[e1];exact hW _ (dC _ (fj _))
  have e0:((P.length+U.length:Nat):Int)-(P.length:Int)=U.length:=by omega
  have e1:((P.length+U.length+V.length:Nat):Int)-((P.length+U.length:Nat):Int)=V.length:=by omega
  rw[e0,e1,Ó (by omega) (by omega),Ó (by omega) (by omega),←hle];have half:aae ((P.length:Int)+((P.length+U.length+V.length:Nat):Int))=(((P.length+(P.length+U.length+V.length)) / 2:Nat):Int):=Iu (by omega)
  by_cases hU1:U.length=1
  ·rw[Ú (beq_iff_eq.2 (by rw[hU1]; rfl))]
   obtain⟨x,hx⟩:∃x,U=[x]:=by
    cases U with
    |nil=>simp at hU1
    |cons x t=>cases t with
     |nil=>exact⟨x,rfl⟩
     |cons y t=>simp at hU1
   have gx:giW l P.length=x:=by
    have:=gU 0 x (by rw[hx]; rfl);exact this
   obtain⟨s,s1,s2,s3,s4,s5⟩:=Xs (f:=fun(v:Int×Int) kk=>ô rec (P.length:Int) l m.1.1.1 m.1.1.2 m.1.2.1 m.1.2.2.1 m.1.2.2.2.1 m.1.2.2.2.2.1 m.1.2.2.2.2.2 m.2 v.1 v.2 (fun x y=>kk (x,y)) (fun z7=>Ê (fun(v:Int×List Way) kk=>ì rec z7 v.1 v.2 (fun x y=>kk (x,y)) (fun z16=>some (z16,m))) ((P.length:Int),l)))
    (K:=fun z7=>Ê (fun(v:Int×List Way) kk=>ì rec z7 v.1 v.2 (fun x y=>kk (x,y)) (fun z16=>some (z16,m))) ((P.length:Int),l)) (lo:=P.length+U.length) (hi:=P.length+U.length+V.length) (by omega)
    (fun h=>đ m (giW l h)<đ m (giW l P.length)) (fun c c' q1 q2 q3 q4=>by have:=kV c c' q1 q2 q3; omega)
    (fun i j q1 q2 q3 kn=>agL rec q2 (by omega) (by omega) (by omega) (kW _ (cH _) (by omega)) (kW _ (by omega) (by omega)) _ _)
    (fun i q1 q2 kn=>by
     dsimp only;unfold ô
     rw[Ð (decide_eq_false (by omega))])
   refine s5.trans ?_
   have hk:s-(P.length+U.length)≤V.length:=by omega
   obtain⟨k,hkk⟩:∃k,k=s-(P.length+U.length):=⟨_,rfl⟩;rw[←hkk] at hk
   have lt:(V.take k).length=k:=by simp; omega
   have hB:∀y∈V.take k,đ m y<đ m x:=fun y hy=>by
    obtain⟨j,j1,j2,j3⟩:=qz hy;have:=s3 (P.length+U.length+j) (by omega) (by omega);rw[gV j y j3,gx] at this;exact this
   have hD:∀y∈V.drop k,đ m x≤đ m y:=fun y hy=>by
    obtain⟨j,j1,j2,j3⟩:=qA hy;have:=s4 (P.length+U.length+j) (by omega) (by omega);rw[gV j y j3,gx] at this;omega
   have hv:V=V.take k++V.drop k:=(dQ _ _).symm
   have fin:Ļ (đ m) (U++V)=V.take k++x::V.drop k:=by
    rw[hv] at sV;obtain⟨v1,v2,v3⟩:=sV.parts;refine vr ?_ ?_
    ·refine v1.append (List.Pairwise.cons hD v2) fun y hy z hz=>?_;rcases cO.1 hz with rfl|hz
     ·have:=hB y hy; omega
     ·exact v3 y hy z hz
    ·have:=(Stb.swap (key:=đ m) (u:=[x]) (v:=V.take k) (fun a ha b hb=>by simp at ha; subst ha; have:=hB b hb; omega)).append (Stb.refl (V.drop k));rw[hx]
     have e:[x]++V.take k++V.drop k=[x]++V:=by rw[cR,←hv]
     rw[e] at this;simpa using this
   have hs:(s:Int)=((P.length+(V.take k).length+1:Nat):Int):=by rw[lt]; omega
   have:=ZT rec (P:=P) (B:=V.take k) (C:=V.drop k++Q) (x:=x) hs (by rw[lt]; omega) (fun z16=>some (z16,m))
   have e2:l=P++(x::(V.take k++(V.drop k++Q))):=by
    rw[hle,hx,←cR (V.take k),←hv];rfl
   rw[←e2] at this;refine this.trans ?_;rw[fin];simp
  rw[Ð (beq_eq_false_iff_ne.2 (fun h=>hU1 (by exact_mod_cast h)))]
  by_cases hV1:V.length=1
  ·rw[Ú (beq_iff_eq.2 (by rw[hV1]; rfl))]
   obtain⟨x,hx⟩:∃x,V=[x]:=by
    cases V with
    |nil=>simp at hV1
    |cons x t=>cases t with
     |nil=>exact⟨x,rfl⟩
     |cons y t=>simp at hV1
   have gx:giW l (P.length+U.length)=x:=by
    have:=gV 0 x (by rw[hx]; rfl);exact this
   obtain⟨s,s1,s2,s3,s4,s5⟩:=Xs (f:=fun(v:Int×Int) kk=>ó rec ((P.length+U.length:Nat):Int) l m.1.1.1 m.1.1.2 m.1.2.1 m.1.2.2.1 m.1.2.2.2.1 m.1.2.2.2.2.1 m.1.2.2.2.2.2 m.2 v.1 v.2 (fun x y=>kk (x,y)) (fun z7=>Ê (fun(v:Int×List Way) kk=>ë rec z7 v.1 v.2 (fun x y=>kk (x,y)) (fun z16=>some (z16,m))) (((P.length+U.length:Nat):Int),l)))
    (K:=fun z7=>Ê (fun(v:Int×List Way) kk=>ë rec z7 v.1 v.2 (fun x y=>kk (x,y)) (fun z16=>some (z16,m))) (((P.length+U.length:Nat):Int),l)) (lo:=P.length) (hi:=P.length+U.length) (by omega)
    (fun h=>đ m (giW l (P.length+U.length))≥đ m (giW l h)) (fun c c' q1 q2 q3 q4=>by have:=kU c c' q1 q2 q3; omega)
    (fun i j q1 q2 q3 kn=>agK rec q2 (by omega) (by omega) (by omega) (kW _ (by omega) (by omega)) (kW _ (by omega) (by omega)) _ _)
    (fun i q1 q2 kn=>by
     dsimp only;unfold ó
     rw[Ð (decide_eq_false (by omega))])
   refine s5.trans ?_;obtain⟨k,hkk⟩:∃k,k=s-P.length:=⟨_,rfl⟩
   have hk:k≤U.length:=by omega
   have lt:(U.take k).length=k:=by simp; omega
   have hB:∀y∈U.take k,đ m y≤đ m x:=fun y hy=>by
    obtain⟨j,j1,j2,j3⟩:=qz hy;have:=s3 (P.length+j) (by omega) (by omega);rw[gU j y j3,gx] at this;exact this
   have hD:∀y∈U.drop k,đ m x<đ m y:=fun y hy=>by
    obtain⟨j,j1,j2,j3⟩:=qA hy;have:=s4 (P.length+j) (by omega) (by omega);rw[gU j y j3,gx] at this;omega
   have hv:U=U.take k++U.drop k:=(dQ _ _).symm
   have fin:Ļ (đ m) (U++V)=U.take k++x::U.drop k:=by
    rw[hv] at sU;obtain⟨v1,v2,v3⟩:=sU.parts;refine vr ?_ ?_
    ·refine v1.append (List.Pairwise.cons (fun y hy=>by have:=hD y hy; omega) v2) fun y hy z hz=>?_;rcases cO.1 hz with rfl|hz
     ·exact hB y hy
     ·exact v3 y hy z hz
    ·have:=(Stb.refl (key:=đ m) (U.take k)).append (Stb.swap (key:=đ m) (u:=U.drop k) (v:=[x]) (fun a ha b hb=>by simp at hb; subst hb; have:=hD a ha; omega));rw[hx]
     have e:U.take k++(U.drop k++[x])=U++[x]:=by rw[←cR,←hv]
     rw[e] at this;simpa using this
   have hs:(s:Int)=((P++U.take k).length:Int):=by rw[cM,lt]; omega
   have ld:(U.drop k).length=U.length-k:=by simp
   have:=ab2 rec (P:=P++U.take k) (B:=U.drop k) (C:=Q) (x:=x) hs (by rw[cM,lt,ld]; omega) (fun z16=>some (z16,m))
   have e2:l=(P++U.take k)++(U.drop k++x::Q):=by
    rw[hle,hx,cR,←cR (U.take k),←hv];rfl
   rw[←e2,show(((P++U.take k).length+(U.drop k).length:Nat):Int)=((P.length+U.length:Nat):Int) by rw[cM,lt,ld]; omega] at this;refine this.trans ?_;rw[fin];simp
  rw[Ð (beq_eq_false_iff_ne.2 (fun h=>hV1 (by exact_mod_cast h))),Ó (by omega) (by omega),half];obtain⟨mid,hmid⟩:∃mid,mid=(P.length+(P.length+U.length+V.length)) / 2:=⟨_,rfl⟩;rw[←hmid,Ó (by omega) (by omega)]
  have hm1:P.length≤mid:=by omega
  have hm2:mid≤P.length+U.length+V.length:=by omega
  -- the search, and what is behind it
  have gen:∀lo hi:Nat,P.length≤lo→lo≤hi→hi≤P.length+U.length→hi≤mid→mid+(P.length+U.length)≤lo+(P.length+U.length+V.length)→(hi=P.length+U.length∨hi=mid)→(lo=P.length∨lo+(P.length+U.length+V.length)=mid+(P.length+U.length)) →
   Ê (fun(v:Int×Int) kk=>Þ rec (((mid+(P.length+U.length)-1:Nat)):Int) l m.1.1.1 m.1.1.2 m.1.2.1 m.1.2.2.1 m.1.2.2.2.1 m.1.2.2.2.2.1 m.1.2.2.2.2.2 m.2 v.1 v.2 (fun x y=>kk (x,y)) (agC rec l (P.length:Int) ((P.length+U.length:Nat):Int) ((P.length+U.length+V.length:Nat):Int) (mid:Int) ((mid:Int)+((P.length+U.length:Nat):Int)) m some)) ((lo:Int),(hi:Int))=some (P++(Ļ (đ m) (U++V)++Q),m):=by
   intro lo hi h1 h2 h3 h4 h5 h6 h7
   have hmu:mid<P.length+U.length+V.length:=by omega
   obtain⟨s,s1,s2,s3,s4,s5⟩:=Xs (f:=fun(v:Int×Int) kk=>Þ rec (((mid+(P.length+U.length)-1:Nat)):Int) l m.1.1.1 m.1.1.2 m.1.2.1 m.1.2.2.1 m.1.2.2.2.1 m.1.2.2.2.2.1 m.1.2.2.2.2.2 m.2 v.1 v.2 (fun x y=>kk (x,y)) (agC rec l (P.length:Int) ((P.length+U.length:Nat):Int) ((P.length+U.length+V.length:Nat):Int) (mid:Int) ((mid:Int)+((P.length+U.length:Nat):Int)) m some))
    (K:=agC rec l (P.length:Int) ((P.length+U.length:Nat):Int) ((P.length+U.length+V.length:Nat):Int) (mid:Int) ((mid:Int)+((P.length+U.length:Nat):Int)) m some) (lo:=lo) (hi:=hi) h2
    (fun h=>đ m (giW l (mid+(P.length+U.length)-1-h))≥đ m (giW l h)) (fun c c' q1 q2 q3 q4=>by
     have a1:=kU c c' (by omega) q2 (by omega);have a2:=kV (mid+(P.length+U.length)-1-c') (mid+(P.length+U.length)-1-c) (by omega) (by omega) (by omega)
     omega)
    (fun i j q1 q2 q3 kn=>agJ rec q2 (by omega) (by omega) (by omega) (by omega) (by omega) (kW _ (by omega) (by omega)) (kW _ (by omega) (by omega)) _ _)
    (fun i q1 q2 kn=>by
     dsimp only;unfold Þ
     rw[Ð (decide_eq_false (by omega))])
   refine s5.trans ?_;obtain⟨e,he⟩:∃e,e=mid+(P.length+U.length)-s:=⟨_,rfl⟩
   have lu1:(U.take (s-P.length)).length=s-P.length:=by simp; omega
   have lu2:(U.drop (s-P.length)).length=P.length+U.length-s:=by simp; omega
   have lv1:(V.take (e-(P.length+U.length))).length=e-(P.length+U.length):=by simp; omega
   have lv2:(V.drop (e-(P.length+U.length))).length=P.length+U.length+V.length-e:=by simp; omega
   have hu:U=U.take (s-P.length)++U.drop (s-P.length):=(dQ _ _).symm;have hv:V=V.take (e-(P.length+U.length))++V.drop (e-(P.length+U.length)):=(dQ _ _).symm
   have F1:∀x∈U.drop (s-P.length),∀y∈V.take (e-(P.length+U.length)),đ m y<đ m x:=fun x hx y hy=>by
    obtain⟨i,i1,i2,i3⟩:=qA hx;obtain⟨j,j1,j2,j3⟩:=qz hy;have q:=s4 s (cH _) (by omega);rw[show mid+(P.length+U.length)-1-s=e-1 by omega] at q;have a1:=kV (P.length+U.length+j) (e-1) (by omega) (by omega) (by omega);have a2:=kU s (P.length+i) (by omega) (by omega) (by omega);rw[gV j y j3] at a1;rw[gU i x i3] at a2;omega
   have F2:∀x∈U.take (s-P.length),∀y∈V.drop (e-(P.length+U.length)),đ m x≤đ m y:=fun x hx y hy=>by
    obtain⟨i,i1,i2,i3⟩:=qz hx;obtain⟨j,j1,j2,j3⟩:=qA hy;have q:=s3 (s-1) (by omega) (by omega);rw[show mid+(P.length+U.length)-1-(s-1)=e by omega] at q;have a1:=kV e (P.length+U.length+j) (by omega) (by omega) (by omega);have a2:=kU (P.length+i) (s-1) (by omega) (by omega) (by omega);rw[gV j y j3] at a1;rw[gU i x i3] at a2;omega
   have hW':WOk m ((U.take (s-P.length)++U.drop (s-P.length))++(V.take (e-(P.length+U.length))++V.drop (e-(P.length+U.length)))):=by rw[←hu,←hv]; exact hW
   have:=aeh hrec (P:=P) (u1:=U.take (s-P.length)) (u2:=U.drop (s-P.length)) (v1:=V.take (e-(P.length+U.length))) (v2:=V.drop (e-(P.length+U.length))) (Q:=Q) (by omega) (by omega) (by rw[←hu]; exact sU) (by rw[←hv]; exact sV) F1 F2 hW' (by omega)
    (a:=(P.length:Int)) (c:=((P.length+U.length:Nat):Int)) (b:=((P.length+U.length+V.length:Nat):Int)) (mid:=(mid:Int)) (n:=(mid:Int)+((P.length+U.length:Nat):Int)) (z:=(s:Int)) rfl (by omega) (by omega) (by omega) (by omega) (by omega)
   rw[←hu,←hv,←hle] at this;exact this
  by_cases hgt:mid<P.length+U.length
  ·rw[Ú (decide_eq_true (by omega)),Ó (by omega) (by omega),Ó (by omega) (by omega)];have:=gen (mid+(P.length+U.length)-(P.length+U.length+V.length)) mid (by omega) (by omega) (by omega) (cH _) (by omega) (.inr rfl) (.inr (by omega));rw[show((mid+(P.length+U.length)-1:Nat):Int)=(mid:Int)+((P.length+U.length:Nat):Int)-1 by omega,show((mid+(P.length+U.length)-(P.length+U.length+V.length):Nat):Int)=(mid:Int)+((P.length+U.length:Nat):Int)-((P.length+U.length+V.length:Nat):Int) by omega] at this;exact this
  ·rw[Ð (decide_eq_false (by omega)),Ó (by omega) (by omega)];have:=gen P.length (P.length+U.length) (cH _) (by omega) (cH _) (by omega) (by omega) (.inl rfl) (.inl rfl);rw[show((mid+(P.length+U.length)-1:Nat):Int)=(mid:Int)+((P.length+U.length:Nat):Int)-1 by omega] at this;exact this
def IQ {P U V Q:List Way} (hU:1≤U.length) (hV:1≤V.length) (sU:Srt (đ m) U) (sV:Srt (đ m) V) (hW:WOk m (U++V)) (hl:P.length+U.length+V.length≤1000000) :
 Đ (P++(U++(V++Q))) P.length ((P.length+U.length:Nat):Int) ((P.length+U.length+V.length:Nat):Int) m=some (P++(Ļ (đ m) (U++V)++Q),m) :=
 Gy 99 1000000 (by decide) P U V Q hU hV (by omega) sU sV hW hl
end
section
variable {ρ:Type} {m:ņ}
inductive Chs (m:ņ) (bs:Nat):List Way→Prop
 |last {l:List Way}:l.length≤bs→Srt (đ m) l→Chs m bs l
 |cons {u r:List Way}:u.length=bs→Srt (đ m) u→Chs m bs r→Chs m bs (u++r)
def Chs.split {bs:Nat} {l:List Way} (h:Chs m bs l) (hl:bs<l.length):∃u r,l=u++r∧u.length=bs∧Srt (đ m) u∧Chs m bs r:=by
 cases h with
 |last h1 h2=>omega
 | @cons u r h1 h2 h3=>exact⟨u,r,rfl,h1,h2,h3⟩
def Chs.srt {bs:Nat} {l:List Way} (h:Chs m bs l) (hl:l.length≤bs):Srt (đ m) l:=by
 cases h with
 |last h1 h2=>exact h2
 | @cons u r h1 h2 h3 =>
  have:r=[]:=by
   rw[cM] at hl;exact cY.1 (by omega)
  rw[this,dh];exact h2
def csR (m:ņ) (bs:Nat):Nat→List Way→List Way
 |0,l=>l
 |f+1,l=>if bs≤l.length then Ļ (đ m) (l.take bs)++csR m bs f (l.drop bs) else Ļ (đ m) l
def mpR (m:ņ) (bs:Nat):Nat→List Way→List Way
 |0,l=>l
 |f+1,l=>if 2*bs≤l.length then Ļ (đ m) (l.take (2*bs))++mpR m bs f (l.drop (2*bs)) else if bs<l.length then Ļ (đ m) l else l
def age {bs:Nat} (hb:1≤bs):∀(f:Nat) (l:List Way),l.length<f→Chs m bs (csR m bs f l)∧Stb (đ m) l (csR m bs f l)
 |0,_,h=>by omega
 |f+1,l,h=>by
  unfold csR
  by_cases hl:bs≤l.length
  ·rw[if_pos hl];obtain⟨h1,h2⟩:=age hb f (l.drop bs) (by simp; omega);refine⟨.cons (by rw[pS]; simp; omega) (jK _) h1,?_⟩;have:=(Ō (key:=đ m) (l.take bs)).append h2
   rwa [dQ] at this
  ·rw[if_neg hl];exact⟨.last (by rw[pS]; omega) (jK _),Ō _⟩
def af2 {bs:Nat} (hb:1≤bs):∀(f:Nat) (l:List Way),l.length<f→Chs m bs l→Chs m (2*bs) (mpR m bs f l)∧Stb (đ m) l (mpR m bs f l)
 |0,_,h,_=>by omega
 |f+1,l,h,hc=>by
  unfold mpR
  by_cases hl:2*bs≤l.length
  ·rw[if_pos hl]
   have hd:Chs m bs (l.drop (2*bs)):=by
    obtain⟨u,r,rfl,h1,_,h2⟩:=hc.split (by omega)
    have hr:bs≤r.length:=by rw[cM] at hl; omega
    have e:(u++r).drop (2*bs)=r.drop bs:=by
     rw[List.drop_append,gd (by omega),dS];congr 1; omega
    rw[e];rcases f8 hr with h3|h3
    ·obtain⟨u2,r2,rfl,h4,_,h5⟩:=h2.split h3;rw[List.drop_append,gd (by omega),dS,h4,gT,gJ];exact h5
    ·rw[gd (by omega)];exact .last (by simp) List.Pairwise.nil
   obtain⟨h1,h2⟩:=af2 hb f (l.drop (2*bs)) (by simp; omega) hd;refine⟨.cons (by rw[pS]; simp; omega) (jK _) h1,?_⟩;have:=(Ō (key:=đ m) (l.take (2*bs))).append h2
   rwa [dQ] at this
  ·rw[if_neg hl]
   by_cases h2:bs<l.length
   ·rw[if_pos h2];exact⟨.last (by rw[pS]; omega) (jK _),Ō _⟩
   ·rw[if_neg h2];exact⟨.last (by omega) (hc.srt (by omega)),Stb.refl _⟩
abbrev StT:=Int×Int×List Way×Int×Int×List (Val Ö)×List (Val Ã)×List (Val ic)×List (Val â)×List (Val Ã)×List (Val Ī)
def stM (a b:Int) (l:List Way) (m:ņ):StT:=(a,b,l,m.1.1.1,m.1.1.2,m.1.2.1,m.1.2.2.1,m.1.2.2.2.1,m.1.2.2.2.2.1,m.1.2.2.2.2.2,m.2)
def WOk.stb {l s:List Way} (h:WOk m l) (hs:Stb (đ m) l s):WOk m s:=fun x hx=>h x (hs.mem.1 hx)
def agG {xs:List Way} (hW:WOk m xs) (hn:xs.length≤100000) (K:List Way×ņ→Option ρ) :
 Ê (fun(v:StT) kk=>χ (xs.length:Int) (20:Int) v.1 v.2.1 v.2.2.1 v.2.2.2.1 v.2.2.2.2.1 v.2.2.2.2.2.1 v.2.2.2.2.2.2.1 v.2.2.2.2.2.2.2.1 v.2.2.2.2.2.2.2.2.1 v.2.2.2.2.2.2.2.2.2.1 v.2.2.2.2.2.2.2.2.2.2 (fun u42 u43 u44 u45 u46 u47 u48 u49 u50 u51 u52=>kk (u42,u43,u44,u45,u46,u47,u48,u49,u50,u51,u52))
  (fun z3=>Ä (å z3.2.1 z3.1 (xs.length:Int) (((z3.2.2.1,z3.2.2.2.1),z3.2.2.2.2.1,z3.2.2.2.2.2.1,z3.2.2.2.2.2.2.1,z3.2.2.2.2.2.2.2.1,z3.2.2.2.2.2.2.2.2.1),z3.2.2.2.2.2.2.2.2.2)) fun r4=>K r4)) (stM 0 20 xs m)=K (csR m 20 (xs.length+1) xs,m):=by
 refine ė (fun v:StT=>∃(A R:List Way) (f:Nat),v=stM (A.length:Int) ((A.length+20:Nat):Int) (A++R) m∧A++csR m 20 f R=csR m 20 (xs.length+1) xs∧R.length<f∧A.length+R.length=xs.length∧WOk m R) (fun v=>(xs.length+100)-v.1.toNat) ?_ ⟨[],xs,xs.length+1,rfl,rfl,by omega,by simp,hW⟩;rintro v ⟨A,R,f,rfl,hR,hf,hl,hWR⟩;obtain⟨f,rfl⟩:∃g,f=g+1:=⟨f-1,by omega⟩
 have e0:csR m 20 (f+1) R=if 20≤R.length then Ļ (đ m) (R.take 20)++csR m 20 f (R.drop 20) else Ļ (đ m) R:=rfl
 rw[e0] at hR
 by_cases h:20≤R.length
 ·have lt:(R.take 20).length=20:=by simp; omega
  have li:(Ļ (đ m) (R.take 20)).length=20:=by rw[pS,lt]
  refine .inr ⟨stM (((A++Ļ (đ m) (R.take 20)).length:Nat):Int) (((A++Ļ (đ m) (R.take 20)).length+20:Nat):Int) ((A++Ļ (đ m) (R.take 20))++R.drop 20) m,⟨_,_,f,rfl,?_,by simp; omega,by rw[cM,li]; simp; omega,hWR.sub fun x hx=>List.mem_of_mem_drop hx⟩,by simp only[stM,cM,li]; omega,fun kn=>?_⟩
  ·rw[if_pos h] at hR;rw[cR];exact hR
  ·show ifb (ile ((A.length+20:Nat):Int) (xs.length:Int)) (Ä (å (A++R) (A.length:Int) ((A.length+20:Nat):Int) m) fun r1=>ck (((A.length+20:Nat):Int)+(20:Int)) fun n2=>kn (stM ((A.length+20:Nat):Int) n2 r1.1 r1.2)) _=_;have:=G7 (m:=m) (P:=A) (M:=R.take 20) (Q:=R.drop 20) (hWR.sub fun x hx=>fQ hx) (by omega);rw[dQ,lt] at this;rw[Ú (decide_eq_true (by omega)),this,À,Ó (by omega) (by omega)];congr 1;rw[cM,li,cR];rfl
 ·refine .inl fun kn=>?_;show ifb (ile ((A.length+20:Nat):Int) (xs.length:Int)) _ (Ä (å (A++R) (A.length:Int) (xs.length:Int) m) fun r4=>K r4)=_;have:=G7 (m:=m) (P:=A) (M:=R) (Q:=[]) hWR (by omega);rw[dh,hl] at this;rw[Ð (decide_eq_false (by omega)),this,À];rw[if_neg h] at hR;rw[←hR,dh]
def agF {xs:List Way} {bs:Nat} (hb:1≤bs) (hb2:bs≤200000) (hc:Chs m bs xs) (hW:WOk m xs) (hn:xs.length≤100000) (K:List Way×ņ→Option ρ) :
 Ê (fun(v:StT) kk=>ς (xs.length:Int) (bs:Int) v.1 v.2.1 v.2.2.1 v.2.2.2.1 v.2.2.2.2.1 v.2.2.2.2.2.1 v.2.2.2.2.2.2.1 v.2.2.2.2.2.2.2.1 v.2.2.2.2.2.2.2.2.1 v.2.2.2.2.2.2.2.2.2.1 v.2.2.2.2.2.2.2.2.2.2 (fun u16 u17 u18 u19 u20 u21 u22 u23 u24 u25 u26=>kk (u16,u17,u18,u19,u20,u21,u22,u23,u24,u25,u26))
  (fun z10=>ck (z10.1+(bs:Int)) fun n11=>ifb (ilt n11 (xs.length:Int)) (Ä (Đ z10.2.1 z10.1 n11 (xs.length:Int) (((z10.2.2.1,z10.2.2.2.1),z10.2.2.2.2.1,z10.2.2.2.2.2.1,z10.2.2.2.2.2.2.1,z10.2.2.2.2.2.2.2.1,z10.2.2.2.2.2.2.2.2.1),z10.2.2.2.2.2.2.2.2.2)) fun r12=>K r12) (K (z10.2.1,(((z10.2.2.1,z10.2.2.2.1),z10.2.2.2.2.1,z10.2.2.2.2.2.1,z10.2.2.2.2.2.2.1,z10.2.2.2.2.2.2.2.1,z10.2.2.2.2.2.2.2.2.1),z10.2.2.2.2.2.2.2.2.2))))) (stM 0 ((2*bs:Nat):Int) xs m)=K (mpR m bs (xs.length+1) xs,m):=by
 refine ė (fun v:StT=>∃(A R:List Way) (f:Nat),v=stM (A.length:Int) ((A.length+2*bs:Nat):Int) (A++R) m∧A++mpR m bs f R=mpR m bs (xs.length+1) xs∧R.length<f∧A.length+R.length=xs.length∧WOk m R∧Chs m bs R) (fun v=>(xs.length+1000000)-v.1.toNat) ?_ ⟨[],xs,xs.length+1,by simp[stM],rfl,by omega,by simp,hW,hc⟩;rintro v ⟨A,R,f,rfl,hR,hf,hl,hWR,hcR⟩;obtain⟨f,rfl⟩:∃g,f=g+1:=⟨f-1,by omega⟩
 have e0:mpR m bs (f+1) R=if 2*bs≤R.length then Ļ (đ m) (R.take (2*bs))++mpR m bs f (R.drop (2*bs)) else if bs<R.length then Ļ (đ m) R else R:=rfl
 rw[e0] at hR
 by_cases h:2*bs≤R.length
 ·obtain⟨u,r,rfl,h1,h2,h3⟩:=hcR.split (by omega)
  have hr:bs≤r.length:=by rw[cM] at h; omega
  -- the second block
  obtain⟨u2,r2,rfl,h4,h5,h6⟩:∃u2 r2,r=u2++r2∧u2.length=bs∧Srt (đ m) u2∧Chs m bs r2:=by
   rcases f8 hr with q|q
   ·exact h3.split q
   ·exact⟨r,[],by simp,q.symm,h3.srt (by omega),.last (by simp) List.Pairwise.nil⟩
  have e1:(u++(u2++r2)).take (2*bs)=u++u2:=by
   rw[←cR,eY (by simp; omega),dV (by simp; omega)]
  have e2:(u++(u2++r2)).drop (2*bs)=r2:=by
   rw[←cR,List.drop_append,gd (by simp; omega),dS];rw[show 2*bs-(u++u2).length=0 by simp; omega];rfl
  have li:(Ļ (đ m) (u++u2)).length=2*bs:=by rw[pS]; simp; omega
  rw[if_pos h,e1,e2] at hR;refine .inr ⟨stM (((A++Ļ (đ m) (u++u2)).length:Nat):Int) (((A++Ļ (đ m) (u++u2)).length+2*bs:Nat):Int) ((A++Ļ (đ m) (u++u2))++r2) m,⟨_,_,f,rfl,by rw[cR]; exact hR,by simp at hf; omega,by rw[cM,li]; simp at hl; omega,hWR.sub fun x hx=>by simp[hx],h6⟩,by simp only[stM,cM,li]; omega,fun kn=>?_⟩;show ifb (ile ((A.length+2*bs:Nat):Int) (xs.length:Int)) (ck ((A.length:Int)+(bs:Int)) fun n6=>Ä (Đ (A++(u++(u2++r2))) (A.length:Int) n6 ((A.length+2*bs:Nat):Int) m) fun r7=>ck ((2:Int)*(bs:Int)) fun n8=>ck (((A.length+2*bs:Nat):Int)+n8) fun n9=>kn (stM ((A.length+2*bs:Nat):Int) n9 r7.1 r7.2)) _=_
  have:=IQ (m:=m) (P:=A) (U:=u) (V:=u2) (Q:=r2) (by omega) (by omega) h2 h5 (hWR.sub fun x hx=>by rcases cN.1 hx with hx|hx<;>simp[hx]) (by omega)
  rw[h1,h4] at this;rw[List.length_append,List.length_append] at hl;rw[Ú (decide_eq_true (by omega)),Ó (by omega) (by omega),show(A.length:Int)+(bs:Int)=((A.length+bs:Nat):Int) by omega,show((A.length+2*bs:Nat):Int)=((A.length+bs+bs:Nat):Int) by omega,this,À,Ó (by omega) (by omega),Ó (by omega) (by omega)];congr 1;unfold stM;rw[List.length_append,li,List.append_assoc];refine Prod.ext (by dsimp only; omega) (Prod.ext (by dsimp only; omega) rfl)
 ·refine .inl fun kn=>?_;rw[if_neg h] at hR;show ifb (ile ((A.length+2*bs:Nat):Int) (xs.length:Int)) _ (ck ((A.length:Int)+(bs:Int)) fun n11=>ifb (ilt n11 (xs.length:Int)) (Ä (Đ (A++R) (A.length:Int) n11 (xs.length:Int) m) fun r12=>K r12) (K (A++R,m)))=_;rw[Ð (decide_eq_false (by omega)),Ó (by omega) (by omega)]
  by_cases h2:bs<R.length
  ·rw[if_pos h2] at hR;obtain⟨u,r,rfl,h1,h3,h4⟩:=hcR.split h2;have:=IQ (m:=m) (P:=A) (U:=u) (V:=r) (Q:=[]) (by omega) (by rw[cM] at h2; omega) h3 (h4.srt (by rw[cM] at h; omega)) hWR (by rw[cM] at hl; omega);rw[dh,dh,show A.length+u.length+r.length=xs.length by rw[cM] at hl; omega] at this;rw[Ú (decide_eq_true (by omega)),show(A.length:Int)+(bs:Int)=((A.length+u.length:Nat):Int) by omega,this,À,hR]
  ·rw[if_neg h2] at hR;rw[Ð (decide_eq_false (by omega)),hR]
abbrev StQ:=Int×List Way×Int×Int×List (Val Ö)×List (Val Ã)×List (Val ic)×List (Val â)×List (Val Ã)×List (Val Ī)
def stQ (b:Int) (l:List Way) (m:ņ):StQ:=(b,l,m.1.1.1,m.1.1.2,m.1.2.1,m.1.2.2.1,m.1.2.2.2.1,m.1.2.2.2.2.1,m.1.2.2.2.2.2,m.2)
def abk {xs:List Way} (hW:WOk m xs) (hn:xs.length≤100000):Ķ xs (xs.length:Int) m=some (Ļ (đ m) xs,m):=by
 unfold Ķ iV;refine(agG hW hn (fun r4=>Ê (fun(v29:StQ) kk40=>υ (xs.length:Int) v29.1 v29.2.1 v29.2.2.1 v29.2.2.2.1 v29.2.2.2.2.1 v29.2.2.2.2.2.1 v29.2.2.2.2.2.2.1 v29.2.2.2.2.2.2.2.1 v29.2.2.2.2.2.2.2.2.1 v29.2.2.2.2.2.2.2.2.2 (fun u30 u31 u32 u33 u34 u35 u36 u37 u38 u39=>kk40 (u30,u31,u32,u33,u34,u35,u36,u37,u38,u39)) (fun z28=>some (z28.1,(((z28.2.1,z28.2.2.1),z28.2.2.2.1,z28.2.2.2.2.1,z28.2.2.2.2.2.1,z28.2.2.2.2.2.2.1,z28.2.2.2.2.2.2.2.1),z28.2.2.2.2.2.2.2.2)))) (stQ (20:Int) r4.1 r4.2))).trans ?_;obtain⟨c1,c2⟩:=age (m:=m) (bs:=20) (by omega) (xs.length+1) xs (by omega);refine ė (fun v:StQ=>∃(bs:Nat) (l:List Way),1≤bs∧bs≤200000∧v=stQ (bs:Int) l m∧Chs m bs l∧Stb (đ m) xs l) (fun v=>400000-v.1.toNat) ?_ ⟨20,_,by omega,by omega,rfl,c1,c2⟩;rintro v ⟨bs,l,hb,hb2,rfl,hc,hs⟩;have hl:=hs.length
 by_cases h:bs<xs.length
 ·obtain⟨d1,d2⟩:=af2 hb (l.length+1) l (by omega) hc;refine .inr ⟨stQ ((2*bs:Nat):Int) (mpR m bs (l.length+1) l) m,⟨2*bs,_,by omega,by omega,rfl,d1,hs.trans d2⟩,by simp only[stQ]; omega,fun kn=>?_⟩;have:=agF (m:=m) (xs:=l) hb hb2 hc (hW.stb hs) (by omega) (fun r=>ck ((bs:Int)*(2:Int)) fun n13=>kn (stQ n13 r.1 r.2));rw[hl] at this;show ifb (ilt (bs:Int) (xs.length:Int)) (ck ((2:Int)*(bs:Int)) fun n5=>_) _=_;rw[Ú (decide_eq_true (by omega)),Ó (by omega) (by omega),show(2:Int)*(bs:Int)=((2*bs:Nat):Int) by push_cast; rfl];rw[hl];refine eN ?_ (this.trans ?_)
  ·rfl
  ·rw[Ó (by omega) (by omega)];congr 2;omega
 ·refine .inl fun kn=>?_;show ifb (ilt (bs:Int) (xs.length:Int)) _ (some (l,m))=_;rw[Ð (decide_eq_false (by omega)),vr (hc.srt (by omega)) hs]
end
abbrev Mx:=Int×List Int
def Ė:List Mx→Way→Prop
 |[],[]=>True
 |m::ms,l::ls=>l.Perm m.2∧Ė ms ls
 |_,_=>False
def Ė.len:∀{ms:List Mx} {w:Way},Ė ms w→w.length=ms.length
 |[],[],_=>rfl
 |m::ms,l::ls,h=>by simp[h.2.len]
def Ė.at:∀{ms:List Mx} {w:Way} {i:Nat} {m:Mx},Ė ms w→ms[i]?=some m→∃l,w[i]?=some l∧l.Perm m.2
 |[],_,i,_,_,h=>by simp at h
 |m::ms,l::ls,0,x,h,hx=>by
  simp at hx; subst hx;exact⟨l,rfl,h.1⟩
 |m::ms,l::ls,i+1,x,h,hx=>by
  simp only[fF] at hx ⊢;exact h.2.at hx
def stp (d:Int) (m:Mx) (l:List Int) (x:Int):Int :=
 if m.1<d then match l.findIdx? (·==x) with|some k=>m.2.getD k 0|none=>x else x
def Ŕ:List Mx→Way→Int→Int→Int
 |m::ms,l::ls,x,d=>stp d m l (Ŕ ms ls x d)
 |_,_,x,_=>x
def aec {ms:List Mx} {w:Way} {i:Nat} {m:Mx} {l:List Int} (hm:ms[i]?=some m) (hl:w[i]?=some l) (x d:Int):Ŕ (ms.drop i) (w.drop i) x d=stp d m l (Ŕ (ms.drop (i+1)) (w.drop (i+1)) x d):=by
 obtain⟨h1,rfl⟩:=cJ.1 hm;obtain⟨h2,rfl⟩:=cJ.1 hl;rw[dF h1,dF h2,Ŕ]
def who_ok {m:ņ} {w:Way} (h:Ė m.2 w) (hn:m.2.length≤1000) (hl:∀x∈m.2,x.2.length≤1000) (x d:Int):sk m w x d=some (Ŕ m.2 w x d):=by
 unfold sk V5;rw[Ô,Ó (by omega) (by omega)];refine ė (fun s:Int×Int=>∃i:Nat,i≤m.2.length∧s.2=(i:Int)-1∧s.1=Ŕ (m.2.drop i) (w.drop i) x d) (fun s=>(s.2+1).toNat) ?_ ⟨m.2.length,Nat.le_refl _,rfl,?_⟩
 ·rintro⟨s1,s2⟩ ⟨i,hi,h1,h2⟩;simp only at h1 h2;subst h1 h2
  cases i with
  |zero =>
   refine .inl fun kn=>?_
   try dsimp only
   unfold yE;rw[Ð (by simp[ige])]; rfl
  |succ i =>
   obtain⟨y,hy⟩:∃y,m.2[i]?=some y:=⟨_,cG hi⟩;obtain⟨l,hw,hp⟩:=h.at hy
   have hll:l.length≤1000:=by rw[hp.length_eq]; exact hl y (cP hy)
   have e0:((i+1:Nat):Int)-1=i:=by omega
   refine .inr ⟨(Ŕ (m.2.drop i) (w.drop i) x d,(i:Int)-1),⟨i,by omega,rfl,rfl⟩,by simp only[e0]; omega,fun kn=>?_⟩
   try dsimp only
   unfold yE;rw[e0,Ú (by simp[ige]),È hw,Vk (by omega),À,aec hy hw];unfold stp
   cases hf:l.findIdx? (·==Ŕ (m.2.drop (i+1)) (w.drop (i+1)) x d) with
   |none =>
    dsimp only;rw[Ð (by simp[ige]),Ó (by omega) (by omega)]
    split<;>rfl
   |some k =>
    dsimp only;rw[Ú (by simp[ige]),È hy]
    have hk:k<y.2.length:=by rw[←hp.length_eq]; exact(dH.1 hf).1
    by_cases hd:y.1<d
    ·rw[Ú (by simp[ilt,hd]),È hy,È (cG hk),Ó (by omega) (by omega),if_pos hd];rw[eE,cG hk]; rfl
    ·rw[Ð (by simp[ilt,hd]),Ó (by omega) (by omega),if_neg hd]
 ·simp only[List.drop_length];rw[←h.len,List.drop_length];unfold Ŕ;rfl
def Vu:List Int→List Int→Int
 |x::l,y::m=>(if y=x then 0 else 1)+Vu l m
 |_,_=>0
def Mg:List Mx→Way→Int
 |m::ms,l::ls=>Vu l m.2+Mg ms ls
 |_,_=>0
def Sa:∀{l m:List Int} {k:Nat} {x y:Int},l[k]?=some x→m[k]?=some y→Vu (l.take (k+1)) (m.take (k+1))=Vu (l.take k) (m.take k)+if y=x then 0 else 1
 |[],_,_,_,_,h,_=>by simp at h
 |_::_,[],_,_,_,_,h=>by simp at h
 |a::l,b::m,0,x,y,h1,h2=>by
  simp at h1 h2; subst h1 h2;simp[Vu]
 |a::l,b::m,k+1,x,y,h1,h2=>by
  simp only[fF] at h1 h2;have:=Sa h1 h2;simp only[gC,Vu,this]; omega
def R0:∀{ms:List Mx} {w:Way} {k:Nat} {m:Mx} {l:List Int},ms[k]?=some m→w[k]?=some l→Mg (ms.take (k+1)) (w.take (k+1))=Mg (ms.take k) (w.take k)+Vu l m.2
 |[],_,_,_,_,h,_=>by simp at h
 |_::_,[],_,_,_,_,h=>by simp at h
 |a::l,b::m,0,x,y,h1,h2=>by
  simp at h1 h2; subst h1 h2;simp[Mg]
 |a::l,b::m,k+1,x,y,h1,h2=>by
  simp only[fF] at h1 h2;have:=R0 h1 h2;simp only[gC,Mg,this]; omega
def Vt:∀l m:List Int,0≤Vu l m∧Vu l m≤m.length
 |[],m=>by simp[Vu]
 |_::_,[]=>by simp[Vu]
 |a::l,b::m=>by
  have:=Vt l m;unfold Vu;simp only[List.length_cons]
  split<;>omega
def aaY {n:Nat}:∀{ms:List Mx} {w:Way},(∀m∈ms,m.2.length≤n)→0≤Mg ms w∧Mg ms w≤(ms.length*n:Nat)
 |[],w,_=>by simp[Mg]
 |m::ms,[],_=>by
  unfold Mg; exact⟨Int.le_refl _,Int.natCast_nonneg _⟩
 |m::ms,l::ls,h=>by
  have h1:=Vt l m.2;have h2:=h m (by simp);have h3:=aaY (w:=ls) fun x hx=>h x (List.mem_cons_of_mem _ hx);unfold Mg
  have:(m::ms).length*n=ms.length*n+n:=by rw[cX,Nat.succ_mul]
  omega
def agq {n:Nat} {ms:List Mx} (hn:ms.length≤1000) (hl:∀x∈ms,x.2.length≤1000) (w:Way) (i:Nat):0≤Mg (ms.take i) w∧Mg (ms.take i) w≤1000000:=by
 have h1:=aaY (n:=1000) (ms:=ms.take i) (w:=w) fun m hm=>hl m (fQ hm);have h2:(ms.take i).length*1000≤1000*1000:=dm _ (by rw[dc]; omega);omega
def aaZ {m:ņ} {w:Way} (h:Ė m.2 w) (hn:m.2.length≤1000) (hl:∀x∈m.2,x.2.length≤1000):ĵ m w=some (Mg m.2 w):=by
 unfold ĵ E8;have hlen:=h.len;refine ė (fun s:Int×Int=>∃i:Nat,i≤w.length∧s.2=(i:Int)∧s.1=Mg (m.2.take i) (w.take i)) (fun s=>w.length-s.2.toNat) ?_ ⟨0,Nat.zero_le _,rfl,by simp[Mg]⟩;rintro⟨s1,s2⟩ ⟨i,hi,h1,h2⟩;simp only at h1 h2;subst h1 h2;rcases Nat.lt_or_ge i w.length with hlt|hge
 ·obtain⟨y,hy⟩:∃y,m.2[i]?=some y:=⟨_,cG (by omega)⟩;obtain⟨l,hw,hp⟩:=h.at hy
  have hll:l.length≤1000:=by rw[hp.length_eq]; exact hl y (cP hy)
  refine .inr ⟨(Mg (m.2.take (i+1)) (w.take (i+1)),(i:Int)+1),⟨i+1,hlt,by simp,rfl⟩,by simp only[cW]; omega,fun kn=>?_⟩
  try dsimp only
  unfold ou;rw[Ï hlt,È hw];have hb:=agq (n:=0) hn hl (w.take i) i;refine ė (fun s:Int×Int=>∃k:Nat,k≤l.length∧s.2=(k:Int)∧s.1=Mg (m.2.take i) (w.take i)+Vu (l.take k) (y.2.take k)) (fun s=>l.length-s.2.toNat) ?_ ⟨0,Nat.zero_le _,rfl,by simp[Vu]⟩;rintro⟨t1,t2⟩ ⟨k,hk,h1,h2⟩;simp only at h1 h2;subst h1 h2;have hb2:=Vt (l.take k) (y.2.take k)
  have hb3:(y.2.take k).length≤1000:=by rw[dc]; omega
  rcases dg k l.length with hkl|hkg
  ·obtain⟨u,hu⟩:∃u,l[k]?=some u:=⟨_,cG hkl⟩;obtain⟨v,hv⟩:∃v,y.2[k]?=some v:=⟨_,cG (by rw[←hp.length_eq]; exact hkl)⟩;refine .inr ⟨(Mg (m.2.take i) (w.take i)+Vu (l.take (k+1)) (y.2.take (k+1)),(k:Int)+1),⟨k+1,hkl,by simp,rfl⟩,by simp only[cW]; omega,fun kn=>?_⟩
   try dsimp only
   unfold ot;rw[Ï hkl,È hu,È hy,È hv,Sa hu hv]
   by_cases huv:v=u
   ·rw[Ð (by simp[ine,huv]),Ó (by omega) (by omega),if_pos huv]; simp
   ·rw[Ú (by simp[ine,huv]),Ó (by omega) (by omega),Ó (by omega) (by omega),if_neg huv,Int.add_assoc]
  ·refine .inl fun kn'=>?_
   have hk':k=l.length:=by omega
   subst hk'
   try dsimp only
   unfold ot;rw[Ý];dsimp only;rw[Ó (by omega) (by omega),R0 hy hw,List.take_length,hp.length_eq,List.take_length]
 ·refine .inl fun kn=>?_
  have hk':i=w.length:=by omega
  subst hk'
  try dsimp only
  unfold ou;rw[Ý,List.take_length,hlen,List.take_length]
def ag6 (a:Int):List Int→List Int
 |[]=>[a]
 |b::t=>if a≤b then a::b::t else b::ag6 a t
def ln:List Int→List Int
 |[]=>[]
 |a::t=>ag6 a (ln t)
def wB (p:Option Int):List Int→List Int
 |[]=>[]
 |a::t=>if p=some a then wB (some a) t else a::wB (some a) t
def Vn (l:List Int):List Int:=wB none (ln l)
def Ld (a:Int):∀l,(ag6 a l).Perm (a::l)
 |[]=>List.Perm.refl _
 |b::t=>by
  unfold ag6
  split
  ·exact List.Perm.refl _
  ·exact((Ld a t).cons b).trans (List.Perm.swap a b t)
def ğ:∀l,(ln l).Perm l
 |[]=>List.Perm.refl _
 |a::t=>(Ld a _).trans ((ğ t).cons a)
def Lc (a:Int):∀{l:List Int},l.Pairwise (·≤·)→(ag6 a l).Pairwise (·≤·)
 |[],_=>by simp[ag6]
 |b::t,h=>by
  rw[List.pairwise_cons] at h;unfold ag6
  split
  ·rename_i hab;refine dz.2 ⟨fun x hx=>?_,dz.2 h⟩;rcases cO.1 hx with rfl|hx
   ·exact hab
   ·have:=h.1 x hx; omega
  ·rename_i hab;refine dz.2 ⟨fun x hx=>?_,Lc a h.2⟩;rcases cO.1 ((Ld a t).mem_iff.1 hx) with rfl|hx
   ·omega
   ·exact h.1 x hx
def jm:∀l:List Int,(ln l).Pairwise (·≤·)
 |[]=>List.Pairwise.nil
 |a::t=>Lc a (jm t)
def Pp (l:List Int):wE l=ln l:=by
 have h1:(wE l).Pairwise (·≤·):=by
  have:=List.pairwise_mergeSort (le:=fun a b:Int=>decide (a≤b)) (fun a b c h1 h2=>by simp at *; omega) (fun a b=>by simp; omega) l
  exact this.imp fun h=>by simpa using h
 exact List.Perm.eq_of_pairwise (le:=(·≤·)) (fun a b _ _ h1 h2=>by omega) h1 (jm l) ((List.mergeSort_perm l _).trans (ğ l).symm)
def NU (a:Int):∀(l:List Int) (p:Option Int),wB p (l++[a])=wB p l++(if (match l.getLast? with|some b=>some b|none=>p)=some a then[] else[a])
 |[],p=>by simp only[dS,wB,List.getLast?_nil]; rfl
 |b::t,p=>by
  have ih:=NU a t (some b)
  have e:(match (b::t).getLast? with|some c=>some c|none=>p)=(match t.getLast? with|some c=>some c|none=>some b):=by
   cases t with
   |nil=>rfl
   |cons c t =>
    rw[List.getLast?_cons_cons]
    cases h:(c::t).getLast? with
    |none=>simp at h
    |some x=>rfl
  rw[e];simp only[eR,wB,ih]
  split<;>simp
def AQ (l:List Int):∀m,m≤l.length→Lib.compactUpTo l.toArray m=wB none (l.take m)
 |0,_=>by simp[Lib.compactUpTo,wB]
 |m+1,h=>by
  have hm:m<l.length:=h;rw[Lib.compactUpTo_succ,AQ l m (by omega),take_succ (cG hm),NU];congr 1
  have e1:l.toArray[m]! = l[m]:=by simp[getElem!_pos,hm]
  rw[e1];unfold Lib.keeps;rw[e1]
  cases m with
  |zero=>simp
  |succ m =>
   have hm':m<l.length:=by omega
   have e2:l.toArray[m+1-1]! = l[m]:=by simp[getElem!_pos,hm']
   rw[e2]
   have e3:(l.take (m+1)).getLast?=some l[m]:=by rw[take_succ (cG hm'),List.getLast?_append]; rfl
   rw[e3]
   by_cases hne:l[m+1]=l[m]
   ·simp[hne]
   ·have:¬l[m]=l[m+1]:=fun h=>hne h.symm;simp[hne,this]
def Xh (l:List Int):zd l=wB none l:=by
 unfold zd Lib.compact;rw[AQ l l.length (Nat.le_refl _),List.take_length]
def abr (l:List Int):zd (wE l)=Vn l:=by rw[Pp,Xh]; rfl
def Si:∀{l:List Int} {p:Option Int} {x:Int},p≠some x→(x∈wB p l↔x∈l)
 |[],_,_,_=>Iff.rfl
 |a::t,p,x,hp=>by
  unfold wB
  by_cases hx:x=a
  ·subst hx;rw[if_neg hp]; simp
  ·have ih:=Si (l:=t) (p:=some a) (x:=x) (fun e=>hx (by cases e; rfl))
   split<;>simp[ih,hx]
def XL:∀{l:List Int} {p:Option Int},l.Pairwise (·≤·)→(∀q,p=some q→∀x∈l,q≤x)→(wB p l).Pairwise (·<·)∧∀q,p=some q→∀x∈wB p l,q<x
 |[],p,_,_=>⟨List.Pairwise.nil,fun _ _ _ h=>by cases h⟩
 |a::t,p,h,hp=>by
  rw[List.pairwise_cons] at h;obtain⟨i1,i2⟩:=XL (l:=t) (p:=some a) h.2 (fun q hq x hx=>by cases hq; exact h.1 x hx);unfold wB
  split
  ·rename_i e;exact⟨i1,fun q hq x hx=>by rw[e] at hq; cases hq; exact i2 _ rfl x hx⟩
  ·rename_i e;refine⟨dz.2 ⟨fun x hx=>i2 _ rfl x hx,i1⟩,fun q hq x hx=>?_⟩;have:=hp q hq a (by simp);have hne:q≠a:=fun h=>e (by rw[hq,h]);rcases cO.1 hx with rfl|hx
   ·omega
   ·have:=i2 _ rfl x hx; omega
def Cm {l:List Int} {x:Int}:x∈Vn l↔x∈l:=by
 unfold Vn;rw[Si (by simp),(ğ l).mem_iff]
def VF (l:List Int):(Vn l).Pairwise (·<·):=(XL (jm l) (fun q hq=>by cases hq)).1
def Sj:∀(l:List Int) (p:Option Int),(wB p l).length≤l.length
 |[],_=>cH _
 |a::t,p=>by
  have:=Sj t (some a);unfold wB
  split<;>simp<;>omega
def If (l:List Int):(Vn l).length≤l.length:=by
 unfold Vn;have:=Sj (ln l) none
 rwa [(ğ l).length_eq] at this
def adU {l m:List Int} (hl:l.Pairwise (·<·)) (hm:m.Pairwise (·<·)) (h:∀x,x∈l↔x∈m):l=m:=by
 induction l generalizing m with
 |nil =>
  cases m with
  |nil=>rfl
  |cons a t=>have:=(h a).2 (by simp); cases this
 |cons a t ih =>
  rw[dz] at hl
  cases m with
  |nil=>have:=(h a).1 (by simp); cases this
  |cons b u =>
   rw[dz] at hm
   have hab:a=b:=by
    rcases cO.1 ((h a).1 (by simp)) with h1|h1
    ·exact h1
    ·rcases cO.1 ((h b).2 (by simp)) with h2|h2
     ·exact h2.symm
     ·have:=hm.1 a h1; have:=hl.1 b h2; omega
   subst hab;rw[ih hl.2 hm.2 fun x=>?_];constructor
   ·intro hx;rcases cO.1 ((h x).1 (by simp[hx])) with h1|h1
    ·have:=hl.1 x hx; omega
    ·exact h1
   ·intro hx;rcases cO.1 ((h x).2 (by simp[hx])) with h1|h1
    ·have:=hm.1 x hx; omega
    ·exact h1
def wJ (b:Ĕ) (s:List (Int×Ā)) (c:Cmp):Int :=
 if (c.2.2.1++c.2.2.2.1).any (fun id=>mW s id c.2.1==5) then 5 else
 if (c.2.2.1++c.2.2.2.1).any (fun id=>mW s id c.2.1==4) then 4 else
 if (c.2.2.1++c.2.2.2.1).any (fun id=>(lM b id c.2.1).isSome) then 9 else
 if 1<(ÿ c.2.2.1 c.2.2.2.1).length then 1 else if 1<(ÿ c.2.2.2.1 c.2.2.1).length then 1 else
 if (ÿ c.2.2.1 c.2.2.2.1).length+(ÿ c.2.2.2.1 c.2.2.1).length=0 then 1 else 0
def ZO (c:Cmp):Bool :=
 inP c.1 1 1099511627776&&(IE c.2.1&&(inP c.2.2.2.2.1 (-1125899906842624) 1125899906842624&&(inP c.2.2.2.2.2.1 0 1073741824&&(lZ c.2.2.2.2.2.2 (-10000) 10000&&(wL c.2.2.1&&wL c.2.2.2.1)))))
def oH (b:Ĕ) (s:List (Int×Ā)) (i:Nat) (c:Cmp):Int :=
 if !ZO c then 1 else if (b.2.2.2.2.1.take i).any (fun x=>x.1==c.1) then 6 else wJ b s c
def D0 (a b:List Int):(ÿ a b).length≤a.length:=dY _ _
set_option maxHeartbeats 1000000 in
def LO {b:Ĕ} (hn:b.2.2.2.2.1.length≤1000) (hl:b.2.2.2.1.length≤1000) (s:List (Int×Ā)) {i:Nat} {c:Cmp} (hA:c.2.2.1.length≤1000) (hB:c.2.2.2.1.length≤1000)
 (hc:b.2.2.2.2.1[i]?=some c):ŋ b s i=some (oH b s i c):=by
 have hi:i<b.2.2.2.2.1.length:=(List.getElem?_eq_some_iff.1 hc).1;unfold ŋ oc oH ZO;rw[È hc,ι,À]
 cases inP c.1 1 1099511627776 with
 |false=>rfl
 |true =>
 rw[Iq,À]
 cases IE c.2.1 with
 |false=>rfl
 |true =>
 rw[ι,À]
 cases inP c.2.2.2.2.1 (-1125899906842624) 1125899906842624 with
 |false=>rfl
 |true =>
 rw[ι,À]
 cases inP c.2.2.2.2.2.1 0 1073741824 with
 |false=>rfl
 |true =>
 rw[D5,À]
 cases lZ c.2.2.2.2.2.2 (-10000) 10000 with
 |false=>rfl
 |true =>
 rw[D4 (by omega),À]
 cases wL c.2.2.1 with
 |false=>rfl
 |true =>
 rw[D4 (by omega),À]
 cases wL c.2.2.2.1 with
 |false=>rfl
 |true =>
 have hg:((ile (0:Int) (i:Int))&&(ile (i:Int) (í b.2.2.2.2.1)))=true:=by simp[ile,í]; omega
 simp only[dB,é,Bool.and_self,cV,if_false];rw[ý hg,cW]
 -- what comes behind the IDs
 have rest:(Ä (ħ ([c.2.2.1,c.2.2.2.1])) fun r12=>Ê (fun(v36:Int) kk38=>Ŏ s r12 (Ù ([(5:Int),(4:Int)])) c.2.1 ([(5:Int),(4:Int)]) v36 (fun u37=>kk38 u37) (fun z23=>some z23) (fun _=>Ê (fun(v33:Int) kk35=>ō r12 (Ù r12) b.1.1 b.1.2 b.2.1 b.2.2.1 b.2.2.2.1 b.2.2.2.2.1 b.2.2.2.2.2 c.2.1 v33 (fun u34=>kk35 u34) (fun z28=>some z28) (fun _=>Ä (Μ c.2.2.1 c.2.2.2.1) fun r30=>Ä (Μ c.2.2.2.1 c.2.2.1) fun r31=>ifb (igt (Ù r30) (1:Int)) (some (1:Int)) (ifb (igt (Ù r31) (1:Int)) (some (1:Int)) (ck ((Ù r30)+(Ù r31)) fun n32=>ifb (ieq n32 (0:Int)) (some (1:Int)) (some (0:Int)))))) (0:Int))) (0:Int))=some (wJ b s c):=by
  rw[Me (by omega) (by omega),À]
  have hall:(c.2.2.1++c.2.2.2.1).length≤2000:=by simp; omega
  have last:(Ä (Μ c.2.2.1 c.2.2.2.1) fun r30=>Ä (Μ c.2.2.2.1 c.2.2.1) fun r31=>ifb (igt (Ù r30) (1:Int)) (some (1:Int)) (ifb (igt (Ù r31) (1:Int)) (some (1:Int)) (ck ((Ù r30)+(Ù r31)) fun n32=>ifb (ieq n32 (0:Int)) (some (1:Int)) (some (0:Int))))) =
   some (if 1<(ÿ c.2.2.1 c.2.2.2.1).length then 1 else if 1<(ÿ c.2.2.2.1 c.2.2.1).length then 1 else if (ÿ c.2.2.1 c.2.2.2.1).length+(ÿ c.2.2.2.1 c.2.2.1).length=0 then 1 else 0):=by
   rw[xY (by omega) (by omega),À,xY (by omega) (by omega),À];have l1:=D0 c.2.2.1 c.2.2.2.1;have l2:=D0 c.2.2.2.1 c.2.2.1;rw[Ô,Ô,Ó (by omega) (by omega)]
   by_cases c1:1<(ÿ c.2.2.1 c.2.2.2.1).length
   ·rw[Ú (by simp[igt]; omega),if_pos c1]
   rw[Ð (by simp[igt]; omega),if_neg c1]
   by_cases c2:1<(ÿ c.2.2.2.1 c.2.2.1).length
   ·rw[Ú (by simp[igt]; omega),if_pos c2]
   rw[Ð (by simp[igt]; omega),if_neg c2]
   by_cases c3:(ÿ c.2.2.1 c.2.2.2.1).length+(ÿ c.2.2.2.1 c.2.2.1).length=0
   ·rw[Ú (by simp[ieq]; omega),if_pos c3]
   rw[Ð (by simp[ieq]; omega),if_neg c3]
  refine eN (mu [(5:Int),4] (fun _ want=>if (c.2.2.1++c.2.2.2.1).any (fun id=>mW s id c.2.1==want) then some want else none) some (some (if (c.2.2.1++c.2.2.2.1).any (fun id=>(lM b id c.2.1).isSome) then 9 else if 1<(ÿ c.2.2.1 c.2.2.2.1).length then 1 else if 1<(ÿ c.2.2.2.1 c.2.2.1).length then 1 else if (ÿ c.2.2.1 c.2.2.2.1).length+(ÿ c.2.2.2.1 c.2.2.1).length=0 then 1 else 0)) (fun j want hj hw kn=>?_) (fun kn=>?_)) ?_
  ·try dsimp only
   unfold Ŏ;rw[Ï hj,Ĭ hj,ð hw];refine Eq.trans (ľ (c.2.2.1++c.2.2.2.1) (fun id=>mW s id c.2.1==want) (fun _=>some want) (some want) (kn ((j:Int)+1)) (fun _=>rfl) (fun k a hk ha kn'=>?_) (fun kn'=>?_)) ?_
   ·try dsimp only
    unfold iv;rw[Ï hk,È ha,VY,À,Ë hk (by omega),Ċ]
   ·try dsimp only
    unfold iv;rw[Ý,Ë hj (by simp)]
   ·cases List.any (c.2.2.1++c.2.2.2.1) (fun id=>mW s id c.2.1==want)<;>rfl
  ·try dsimp only
   unfold Ŏ;rw[Ý];refine Eq.trans (ľ (c.2.2.1++c.2.2.2.1) (fun id=>(lM b id c.2.1).isSome) (fun _=>some 9) (some 9) (some (if 1<(ÿ c.2.2.1 c.2.2.2.1).length then 1 else if 1<(ÿ c.2.2.2.1 c.2.2.1).length then 1 else if (ÿ c.2.2.1 c.2.2.2.1).length+(ÿ c.2.2.2.1 c.2.2.1).length=0 then 1 else 0)) (fun _=>rfl) (fun k a hk ha kn'=>?_) (fun kn'=>?_)) ?_
   ·try dsimp only
    unfold ō;have haw:=adP hl a c.2.1;rw[Ï hk,È ha,Ë hk (by omega)];rw[show vA ((b.1.1,b.1.2),b.2.1,b.2.2.1,b.2.2.2.1,b.2.2.2.2.1,b.2.2.2.2.2) a c.2.1=vA b a c.2.1 from rfl,haw,À]
    cases lM b a c.2.1<;>rfl
   ·try dsimp only
    unfold ō;rw[Ý,last]
   ·cases List.any (c.2.2.1++c.2.2.2.1) (fun id=>(lM b id c.2.1).isSome)<;>rfl
  ·unfold wJ Ŋ Ŋ Ŋ
   try dsimp only
   cases List.any (c.2.2.1++c.2.2.2.1) (fun id=>mW s id c.2.1==5) with
   |true=>rfl
   |false =>
   cases List.any (c.2.2.1++c.2.2.2.1) (fun id=>mW s id c.2.1==4)<;>rfl
 refine eN (ľ (b.2.2.2.2.1.take i) (fun x=>x.1==c.1) (fun z11=>ifb (ige z11 (0:Int)) (some 6) (some (wJ b s c))) (some 6) (some (wJ b s c)) (fun j=>?_) (fun j a hj ha kn=>?_) (fun kn=>?_)) ?_
 ·have:ige (j:Int) 0=true:=by simp[ige]
  rw[Ú this]
 ·try dsimp only
  unfold iw;rw[rest,Ï hj,È ha,Ë hj (by rw[List.length_take]; omega),Ċ]
 ·try dsimp only
  unfold iw;rw[Ý,rest]
 ·cases List.any (b.2.2.2.2.1.take i) (fun x=>x.1==c.1)<;>rfl
def UQ (b:Ĕ) (g:Ā):List Int :=
 [g.2.1]++(b.2.2.2.2.1.filter fun c=>!(c.2.2.1.contains g.1==c.2.2.2.1.contains g.1)).map (fun c=>c.2.1)++(b.2.2.2.2.2.filter fun n=>n.1==g.1).map (fun n=>n.2)
def ä (b:Ĕ) (g:Ā):List Int:=Vn (UQ b g)
structure t8 (b:Ĕ):Prop where
 gauges:b.2.1.length≤1000
 uses:b.2.2.1.length≤1000
 loans:b.2.2.2.1.length≤1000
 compares:b.2.2.2.2.1.length≤1000
 looks:b.2.2.2.2.2.length≤1000
 piles:∀c∈b.2.2.2.2.1,c.2.2.1.length≤1000∧c.2.2.2.1.length≤1000
def Ss (l:List Int):(wE l).length=l.length:=List.length_mergeSort l
def UP {b:Ĕ} (hs:t8 b) (g:Ā):(UQ b g).length≤2001:=by
 have h1:=hs.compares;have h2:=hs.looks;have h3:=dY (fun c:Cmp=>!(c.2.2.1.contains g.1==c.2.2.2.1.contains g.1)) b.2.2.2.2.1;have h4:=dY (fun n:Int×Int=>n.1==g.1) b.2.2.2.2.2;simp only[UQ,cM,dA,dJ];omega
def ac5 {b:Ĕ} (hs:t8 b) (g:Ā):oG b g=some (ä b g):=by
 unfold oG QZ;have hr:=UP hs g
 have hd:(ä b g).length≤2001:=by
  unfold ä;have:=If (UQ b g);omega
 have hcl:=hs.compares;have hll:=hs.looks;refine ģ b.2.2.2.2.1 (fun i=>[g.2.1]++((b.2.2.2.2.1.take i).filter fun c=>!(c.2.2.1.contains g.1==c.2.2.2.1.contains g.1)).map (fun c=>c.2.1)) _ rfl (fun i c hi hc kn=>?_) (fun kn=>?_)
 ·try dsimp only
  unfold vk;obtain⟨p1,p2⟩:=hs.piles c (List.mem_of_getElem? hc);rw[Ï hi,È hc,Ĩ (by omega),À,Ĩ (by omega),À,Ë hi (by omega),Ë hi (by omega),take_succ hc,List.filter_append,List.map_append]
  have hlen:([g.2.1]++((b.2.2.2.2.1.take i).filter fun c=>!(c.2.2.1.contains g.1==c.2.2.2.1.contains g.1)).map (fun c=>c.2.1)).length≤1001:=by
   have h3:=dY (fun c:Cmp=>!(c.2.2.1.contains g.1==c.2.2.2.1.contains g.1)) (b.2.2.2.2.1.take i);rw[dc] at h3;simp only[cM,dA,dJ];omega
  rw[Õ (by simp only[dJ]; omega),Am.iff_true]
  cases h:(c.2.2.1.contains g.1==c.2.2.2.1.contains g.1) with
  |true=>simp only[dB,é,dU,h,cV,if_false,eP,fu,dh]
  |false=>simp only[fc,mQ,dU,h,if_true,eP,eM,fu,cR]
 ·try dsimp only
  unfold vk;rw[Ý,List.take_length];refine ģ b.2.2.2.2.2 (fun i=>[g.2.1]++(b.2.2.2.2.1.filter fun c=>!(c.2.2.1.contains g.1==c.2.2.2.1.contains g.1)).map (fun c=>c.2.1)++((b.2.2.2.2.2.take i).filter fun n=>n.1==g.1).map (fun n=>n.2)) _ (by simp) (fun i n hi hn kn=>?_) (fun kn=>?_)
  ·try dsimp only
   unfold vh;rw[Ï hi,È hn,Ë hi (by omega),Ë hi (by omega),take_succ hn,List.filter_append,List.map_append]
   have hlen:([g.2.1]++(b.2.2.2.2.1.filter fun c=>!(c.2.2.1.contains g.1==c.2.2.2.1.contains g.1)).map (fun c=>c.2.1)++((b.2.2.2.2.2.take i).filter fun n=>n.1==g.1).map (fun n=>n.2)).length≤2001:=by
    have h3:=dY (fun c:Cmp=>!(c.2.2.1.contains g.1==c.2.2.2.1.contains g.1)) b.2.2.2.2.1;have h4:=dY (fun n:Int×Int=>n.1==g.1) (b.2.2.2.2.2.take i);rw[dc] at h4;simp only[cM,dA,dJ];omega
   rw[Õ (by simp only[dJ]; omega),Am.iff_true]
   cases h:(n.1==g.1) with
   |true =>
    have:ieq n.1 g.1=true:=h;simp[h,this]
   |false =>
    have:ieq n.1 g.1=false:=h;simp[h,this]
  ·try dsimp only
   unfold vh;rw[Ý,List.take_length];rw[show([g.2.1]++(b.2.2.2.2.1.filter fun c=>!(c.2.2.1.contains g.1==c.2.2.2.1.contains g.1)).map (fun c=>c.2.1)++(b.2.2.2.2.2.filter fun n=>n.1==g.1).map (fun n=>n.2))=UQ b g from rfl];dsimp only;rw[Õ (by omega),Am.iff_true,Õ (by rw[Ss]; omega),Am.iff_true,abr];rfl
def Ò (b:Ĕ):List (Int×Int):=b.2.1.flatMap fun g=>(ä b g).map fun d=>((g.1,d):Int×Int)
def LG {b:Ĕ} (hs:t8 b) (g:Ā):(ä b g).length≤2001:=by
 unfold ä;have:=If (UQ b g);have:=UP hs g;omega
def B6 {α β:Type} (f:α→List β) (n:Nat) (h:∀a,(f a).length≤n):∀l:List α,(l.flatMap f).length≤l.length*n
 |[]=>by simp
 |a::l=>by
  have:=B6 f n h l;have:=h a;simp only[dG,cM,cX,dk,fi];omega
def PJ {b:Ĕ} (hs:t8 b):pV b=some (Ò b):=by
 unfold pV KJ;have hg:=hs.gauges
 have hlen:∀l:List Ā,(l.flatMap fun g=>(ä b g).map fun d=>((g.1,d):Int×Int)).length≤l.length*2001:=fun l =>
  B6 _ 2001 (fun g=>by rw[dA]; exact LG hs g) l
 refine ģ b.2.1 (fun i=>(b.2.1.take i).flatMap fun g=>(ä b g).map fun d=>((g.1,d):Int×Int)) _ rfl (fun i g hi hg' kn=>?_) (fun kn=>?_)
 ·try dsimp only
  unfold rk;rw[Ï hi,È hg'];rw[show oG ((b.1.1,b.1.2),b.2.1,b.2.2.1,b.2.2.2.1,b.2.2.2.2.1,b.2.2.2.2.2) g=oG b g from rfl,ac5 hs,À];have hd:=LG hs g;have hi2:=hlen (b.2.1.take i)
  have htl:(b.2.1.take i).length≤1000:=by rw[dc]; omega
  refine ģ (ä b g) (fun j=>((b.2.1.take i).flatMap fun g=>(ä b g).map fun d=>((g.1,d):Int×Int))++((ä b g).take j).map fun d=>((g.1,d):Int×Int)) _ (by simp) (fun j d hj hd' kn'=>?_) (fun kn'=>?_)
  ·try dsimp only
   unfold rj;rw[Ï hj,È hd',Ë hj (by omega),take_succ hd',List.map_append];rw[Õ (by simp only[List.length_append,List.length_map,List.length_take,List.length_singleton]; omega),Am.iff_true];simp
  ·try dsimp only
   unfold rj;rw[Ý,List.take_length];dsimp only;rw[Ë hi (by omega),take_succ hg',List.flatMap_append];simp
 ·try dsimp only
  unfold rk;rw[Ý,List.take_length];rfl
def qt (b:Ĕ) (s:List (Int×Ā)):List Int :=
 b.2.2.1.map (fun u=>Gv s u.1 u.2)++(b.2.2.2.1.mapIdx (fun i l=>Rb b s i l)++(b.2.2.2.2.1.mapIdx (fun i c=>oH b s i c)++b.2.2.2.2.2.map (fun u=>Gv s u.1 u.2)))
def Tp {α:Type} {f:Int→Option Int} {g:Nat→α→Int} (l:List α) (h:∀(i:Nat) (a:α),l[i]?=some a→f i=some (g i a)):Jp f (wA l.length)=some (l.mapIdx g):=by
 have h1:∀i,i<l.length→f (i:Int)=some ((l.mapIdx g)[i]?.getD 0):=by
  intro i hi;rw[h i l[i] (cG hi)];simp[hi]
 have h2:∀x∈wA l.length,f x=some ((l.mapIdx g)[x.toNat]?.getD 0):=by
  intro x hx;unfold wA at hx;obtain⟨i,hi,rfl⟩:=List.mem_map.1 hx;rw[h1 i (by simpa using hi)];rfl
 rw[CC h2];congr 1;refine List.ext_getElem (by simp[wA]) fun i h3 h4=>?_
 have h5:i<l.length:=by simpa using h4
 simp[wA,h5]
def aeC {b:Ĕ} (hs:t8 b) (s:List (Int×Ā)):nM b s=some (qt b s):=by
 unfold nM qt
 rw[CC (fun u _=>SP s u.1 u.2),À,Tp b.2.2.2.1 (fun i l hl=>UY hs.loans hs.uses s hl),À,
  Tp b.2.2.2.2.1 (fun i c hc=>LO hs.compares hs.loans s (hs.piles c (cP hc)).1 (hs.piles c (cP hc)).2 hc),À,CC (fun u _=>SP s u.1 u.2),À]
def Ġ (b:Ĕ):Int :=
 if !lZ b.1 0 1000000 then 1 else
 if 12<b.2.1.length then 2 else if 40<b.2.2.1.length then 2 else if 12<b.2.2.2.1.length then 2 else if 40<b.2.2.2.2.1.length then 2 else if 10<b.2.2.2.2.2.length then 2 else
 if mB b != 0 then mB b else
 match (qt b (œ b)).find? (fun e=>e != 0) with
 |some e=>e
 |none=>if 59<(Ò b).length then 2 else if 300<2*b.2.1.length+2*((Ò b).length-b.2.1.length:Int)+2*b.2.2.2.2.1.length then 2 else 0
def Oh {b:Ĕ} (hs:t8 b):(Ò b).length≤2001000:=by
 have:=B6 (fun g:Ā=>(ä b g).map fun d=>((g.1,d):Int×Int)) 2001 (fun g=>by rw[List.length_map]; exact LG hs g) b.2.1;have h2:=hs.gauges;unfold Ò;omega
def rN {b:Ĕ} (hs:t8 b) (hr:∀g∈b.2.1,I64 g.2.2.2.2.1.1):ĭ b=some (Ġ b):=by
 unfold ĭ KY Ġ;rw[D5,À]
 cases lZ b.1 0 1000000 with
 |false=>rfl
 |true =>
 have h1:=hs.gauges;have h2:=hs.compares;have h3:=Oh hs;rw[Ð (show(!true)=false from rfl),if_neg (by simp)];simp only[Ô]
 by_cases c0:12<b.2.1.length
 ·rw[Ú (by simp[igt]; omega),if_pos c0]
 rw[Ð (by simp[igt]; omega),if_neg c0]
 by_cases c1:40<b.2.2.1.length
 ·rw[Ú (by simp[igt]; omega),if_pos c1]
 rw[Ð (by simp[igt]; omega),if_neg c1]
 by_cases c2:12<b.2.2.2.1.length
 ·rw[Ú (by simp[igt]; omega),if_pos c2]
 rw[Ð (by simp[igt]; omega),if_neg c2]
 by_cases c3:40<b.2.2.2.2.1.length
 ·rw[Ú (by simp[igt]; omega),if_pos c3]
 rw[Ð (by simp[igt]; omega),if_neg c3]
 by_cases c4:10<b.2.2.2.2.2.length
 ·rw[Ú (by simp[igt]; omega),if_pos c4]
 rw[Ð (by simp[igt]; omega),if_neg c4];rw[NN hr h1,À]
 cases hm:(mB b != 0) with
 |true =>
  have:ine (mB b) 0=true:=hm;rw[Ú this,if_pos rfl]
 |false =>
 have:ine (mB b) 0=false:=hm;rw[Ð this,if_neg (by simp)];rw[EQ h1,À];unfold SH;rw[aeC hs,À]
 cases(qt b (œ b)).find? (fun e=>e != 0) with
 |some e=>rfl
 |none =>
 dsimp only;rw[PJ hs,À]
 by_cases c5:59<(Ò b).length
 ·rw[Ú (by simp[igt]; omega),if_pos c5]
 rw[Ð (by simp[igt]; omega),if_neg c5];rw[Ó (by omega) (by omega),Ó (by omega) (by omega),Ó (by omega) (by omega),Ó (by omega) (by omega),Ó (by omega) (by omega),Ó (by omega) (by omega)]
 by_cases c6:300<2*b.2.1.length+2*((Ò b).length-b.2.1.length:Int)+2*b.2.2.2.2.1.length
 ·rw[Ú (by simp[igt]; omega),if_pos c6]
 rw[Ð (by simp[igt]; omega),if_neg c6]
def wrapU {n:Nat} (h:n<18446744073709551616):IntKind.wrap .u64 (n:Int)=n:=by
 simp only[IntKind.wrap,IntKind.bits,IntKind.signed];simp;omega
def aaV {n:Nat} (h:n<9223372036854775808):IntKind.wrap .i64 (n:Int)=n:=by
 simp only[IntKind.wrap,IntKind.bits,IntKind.signed];simp;omega
def jB (l:List (Int×Int)) (x d:Int):Option Nat:=l.findIdx? fun n=>decide (x=n.1)&&decide (d=n.2)
def Vj {l:List (Int×Int)} (hn:l.length≤100000000) (x d:Int):ñ l (x,d)=some (match jB l x d with|some j=>(j:Int)|none=>-1):=by
 unfold ñ ŷ;refine Eq.trans (i5 l (fun n=>decide (x=n.1)&&decide (d=n.2)) some (some (-1)) (fun i a hi ha kn=>?_) (fun kn=>?_)) ?_
 ·try dsimp only
  unfold Ħ;rw[Ï hi,È ha,Ë hi (by omega),Ċ,Bool.and_true]
 ·try dsimp only
  unfold Ħ;rw[Ý]
 ·unfold jB
  cases List.findIdx? (fun n=>decide (x=n.1)&&decide (d=n.2)) l<;>rfl
def atP (l:List (Int×Int)) (p:List Int) (d:Int):Int :=
 match p with
 |[]=>0
 |x::_=>match jB l x d with|some j=>(j:Int)+1|none=>0
def kj {l:List (Int×Int)} {x d:Int} {j:Nat} (h:jB l x d=some j):j<l.length∧l[j]?=some (x,d):=by
 unfold jB at h;obtain⟨hj,hp,_⟩:=List.findIdx?_eq_some_iff_getElem.1 h;refine⟨hj,?_⟩;rw[List.getElem?_eq_getElem hj];simp only[Bool.and_eq_true,decide_eq_true_eq] at hp;congr 1;exact Prod.ext hp.1.symm hp.2.symm
def ahB (m:Maker) (p:List Int) (d:Int) (hn:m.2.1.length≤100000000):ku m p d=some (atP m.2.1 p d):=by
 unfold ku xR atP
 cases p with
 |nil=>simp[Ô,ieq]
 |cons x p =>
  have h:ieq (Ù (x::p)) 0=false:=by
   rw[Ô];simp only[ieq,cX,beq_eq_false_iff_ne,ne_eq];omega
  rw[h,é,show(0:Int)=((0:Nat):Int) from rfl,È (a:=x) rfl,Vj hn,À]
  cases hx:jB m.2.1 x d with
  |none=>dsimp only; rw[Ó (by omega) (by omega)]; simp only[hx]; rfl
  |some j =>
   have:=(kj hx).1;dsimp only;rw[Ó (by omega) (by omega)];simp only[hx]
def Mm (s:List (Int×Ā)) (p:List Int):Int×Int :=
 match p with
 |[]=>(0,1)
 |x::_=>match lR (k:=tI) (v:=Ö) x s with
  |some g=>g.2.2.2.2.1
  |none=>(0,0)
def SG (s:List (Int×Ā)) (p:List Int):iC s p=some (Mm s p):=by
 unfold iC ob Mm
 cases p with
 |nil=>simp[Ô,ieq]
 |cons x p =>
  have h:ieq (Ù (x::p)) 0=false:=by
   rw[Ô];simp only[ieq,cX,beq_eq_false_iff_ne,ne_eq];omega
  rw[h,é,show(0:Int)=((0:Nat):Int) from rfl,È (a:=x) rfl]
  cases hx:lR (k:=tI) (v:=Ö) x s with
  |none=>simp only[Mh,hx]
  |some g=>simp only[Mh,hx]
def XJ {l:List (Int×Int)} (hr:∀r∈l,I64 r.1) (hn:l.length≤1000):jM l=some (if l.any (fun r=>!Mn r) then 1 else 0):=by
 unfold jM Kq;refine Eq.trans (ľ l (fun r=>!Mn r) (fun _=>some 1) (some 1) (some 0) (fun _=>rfl) (fun i a hi ha kn=>?_) (fun kn=>?_)) ?_
 ·try dsimp only
  unfold rh;rw[Ï hi,È ha,RV (hr a (List.mem_of_getElem? ha)),À,Ë hi (by omega),Ċ]
 ·try dsimp only
  unfold rh;rw[Ý]
 ·cases l.any (fun r=>!Mn r)<;>rfl
def vN (n d:Int):Int×Int:=(n / (Nat.gcd n.natAbs d.natAbs:Nat),d / (Nat.gcd n.natAbs d.natAbs:Nat))
def om (r:Int×Int):Mn r=true↔1≤r.2∧r.2≤2147483647∧(r.1.natAbs:Int)≤2147483647∧Nat.gcd r.1.natAbs r.2.natAbs=1:=by
 simp[Mn]
def Px {n d:Int} (hd:0<d):∃g:Nat,0<g∧g=Nat.gcd n.natAbs d.natAbs∧n=(vN n d).1*g∧d=(vN n d).2*g:=by
 have hg:0<Nat.gcd n.natAbs d.natAbs:=Nat.gcd_pos_of_pos_right _ (by omega);refine⟨_,hg,rfl,?_,?_⟩
 ·exact(Int.ediv_mul_cancel (Int.ofNat_dvd_left.2 (Nat.gcd_dvd_left _ _))).symm
 ·exact(Int.ediv_mul_cancel (Int.ofNat_dvd_left.2 (Nat.gcd_dvd_right _ _))).symm
def VM {n d:Int} (hd:0<d) (hn:n.natAbs≤2147483647) (hd2:d≤2147483647):Mn (vN n d)=true:=by
 obtain⟨g,h0,hg,h1,h2⟩:=Px (n:=n) hd;rw[om]
 have a1:n.natAbs=(vN n d).1.natAbs*g:=by conv=>lhs; rw[h1]; rw[fK,fL]
 have a2:d.natAbs=(vN n d).2.natAbs*g:=by conv=>lhs; rw[h2]; rw[fK,fL]
 have p2:0<(vN n d).2:=by
  rcases Int.lt_trichotomy (vN n d).2 0 with h|h|h
  ·have:=Int.mul_neg_of_neg_of_pos h (show(0:Int)<g by omega); omega
  ·rw[h] at h2; simp at h2; omega
  ·exact h
 have b1:(vN n d).1.natAbs≤n.natAbs:=by rw[a1]; exact fZ _ h0
 have b2:(vN n d).2.natAbs≤d.natAbs:=by rw[a2]; exact fZ _ h0
 refine⟨by omega,by omega,by omega,?_⟩;have:=Nat.gcd_mul_right (vN n d).1.natAbs g (vN n d).2.natAbs;rw[←a1,←a2,←hg] at this
 have h3:(Nat.gcd (vN n d).1.natAbs (vN n d).2.natAbs)*g=1*g:=by omega
 exact Nat.eq_of_mul_eq_mul_right h0 h3
def N3 {n d:Int} (hd:0<d) (hn:n.natAbs≤2147483647) (hd2:d≤2147483647):pU n d=some (vN n d,0):=by
 obtain⟨g,h0,hg,h1,h2⟩:=Px (n:=n) hd;have hr:=(om _).1 (VM hd hn hd2);unfold pU BF;rw[Pr ⟨by omega,by omega⟩,À,Pr ⟨by omega,by omega⟩,À,aga,À,←hg]
 have a1:n.natAbs=(vN n d).1.natAbs*g:=by conv=>lhs; rw[h1]; rw[fK,fL]
 have a2:d.natAbs=(vN n d).2.natAbs*g:=by conv=>lhs; rw[h2]; rw[fK,fL]
 have q1:Int.tdiv (n.natAbs:Int) (g:Int)=((vN n d).1.natAbs:Int):=by
  rw[a1,gS]; exact Int.mul_tdiv_cancel _ (by omega)
 have q2:Int.tdiv (d.natAbs:Int) (g:Int)=((vN n d).2.natAbs:Int):=by
  rw[a2,gS]; exact Int.mul_tdiv_cancel _ (by omega)
 have z:yk (g:Int) 0=false:=by simp[yk]; omega
 have g1:igt ((vN n d).1.natAbs:Int) 2147483647=false:=by simp[igt]; omega
 have g2:igt ((vN n d).2.natAbs:Int) 2147483647=false:=by simp[igt]; omega
 rw[Ð z,Ð z,q1,q2,wrapU (by omega),wrapU (by omega),aaV (by omega),aaV (by omega),Ð g1,Ð g2]
 have hd0:ilt d 0=false:=by simp[ilt]; omega
 rw[hd0]
 have e2:((vN n d).2.natAbs:Int)=(vN n d).2:=by omega
 rw[e2]
 by_cases hneg:n<0
 ·have hn0:ilt n 0=true:=by simp[ilt,hneg]
  have:(vN n d).1≤0:=by
   rcases gq 0 (vN n d).1 with h|h
   ·have:=Int.mul_pos h (show(0:Int)<g by omega); omega
   ·exact h
  rw[hn0];rw[show(!true==false)=true from rfl,mQ,Ó (by omega) (by omega)]
  have:0-((vN n d).1.natAbs:Int)=(vN n d).1:=by omega
  rw[this]
 ·have hn0:ilt n 0=false:=by simp[ilt]; omega
  have:0≤(vN n d).1:=by
   rcases gq (vN n d).1 0 with h|h
   ·have:=Int.mul_neg_of_neg_of_pos h (show(0:Int)<g by omega); omega
   ·exact h
  rw[hn0];rw[show(!false==false)=false from rfl,é]
  have:((vN n d).1.natAbs:Int)=(vN n d).1:=by omega
  rw[this]
structure yx (r:Int×Int) (n d:Int):Prop where
 rat:Mn r=true
 num : -n≤r.1∧r.1≤n
 den:r.2≤d
def yx.pos {r:Int×Int} {n d:Int} (h:yx r n d):1≤r.2:=((om r).1 h.rat).1
def yx.i64 {r:Int×Int} {n d:Int} (h:yx r n d):I64 r.1:=by
 have:=((om r).1 h.rat).2.2.1;exact⟨by omega,by omega⟩
def aa2 {x y:Int×Int} (hx:Mn x=true) (hy:Mn y=true):jM [x,y]=some 0:=by
 rw[XJ]
 ·simp[hx,hy]
 ·intro r hr
  have:Mn r=true:=by simp at hr; rcases hr with rfl|rfl<;>assumption
  have:=((om r).1 this).2.2.1;exact⟨by omega,by omega⟩
 ·simp
def qy {a b m n:Int} (h1 : -m≤a∧a≤m) (h2 : -n≤b∧b≤n) : -(m*n)≤a*b∧a*b≤m*n:=by
 have hm:0≤m:=by omega
 have hn:0≤n:=by omega
 have h3:(a*b).natAbs≤(m*n).natAbs:=by
  rw[fK,fK];exact fU (by omega) (by omega)
 have h4:0≤m*n:=gK hm hn;omega
def subP (x y:Int×Int):Int×Int:=vN (x.1*y.2-y.1*x.2) (x.2*y.2)
def NW {x y:Int×Int} (hx:yx x 1000 100) (hy:yx y 1000 100):(x.1*y.2-y.1*x.2).natAbs≤200000∧0<x.2*y.2∧x.2*y.2≤10000:=by
 have h1:=qy hx.num (show -100≤y.2∧y.2≤100 from⟨by have:=hy.pos; omega,hy.den⟩);have h2:=qy hy.num (show -100≤x.2∧x.2≤100 from⟨by have:=hx.pos; omega,hx.den⟩);have h3:=qy (show -100≤x.2∧x.2≤100 from⟨by have:=hx.pos; omega,hx.den⟩) (show -100≤y.2∧y.2≤100 from⟨by have:=hy.pos; omega,hy.den⟩);have h4:=Int.mul_pos (show 0<x.2 by have:=hx.pos; omega) (show 0<y.2 by have:=hy.pos; omega);refine⟨by omega,h4,by omega⟩
def Sub_ok {x y:Int×Int} (hx:yx x 1000 100) (hy:yx y 1000 100):Ru x y=some (subP x y,0):=by
 obtain⟨b1,b2,b3⟩:=NW hx hy;have h1:=qy hx.num (show -100≤y.2∧y.2≤100 from⟨by have:=hy.pos; omega,hy.den⟩);have h2:=qy hy.num (show -100≤x.2∧x.2≤100 from⟨by have:=hx.pos; omega,hx.den⟩);unfold Ru WE;rw[aa2 hx.rat hy.rat,À];rw[show ine (0:Int) 0=false from rfl,é,Ó (by omega) (by omega),Ó (by omega) (by omega),Ó (by omega) (by omega),Ó (by omega) (by omega),N3 b2 (by omega) (by omega),À];rfl
def abz {n d:Int} (hd:0<d):(vN n d).1.natAbs≤n.natAbs∧(vN n d).2≤d:=by
 obtain⟨g,h0,hg,h1,h2⟩:=Px (n:=n) hd
 have a1:n.natAbs=(vN n d).1.natAbs*g:=by conv=>lhs; rw[h1]; rw[fK,fL]
 have a2:d.natAbs=(vN n d).2.natAbs*g:=by conv=>lhs; rw[h2]; rw[fK,fL]
 have b1:(vN n d).1.natAbs≤n.natAbs:=by rw[a1]; exact fZ _ h0
 have b2:(vN n d).2.natAbs≤d.natAbs:=by rw[a2]; exact fZ _ h0
 exact⟨b1,by omega⟩
def Vz {x y:Int×Int} (hx:yx x 1000 100) (hy:yx y 1000 100):yx (subP x y) 200000 10000:=by
 obtain⟨b1,b2,b3⟩:=NW hx hy;obtain⟨c1,c2⟩:=abz (n:=x.1*y.2-y.1*x.2) b2;exact⟨VM b2 (by omega) (by omega),by unfold subP; omega,by unfold subP; omega⟩
def aaM (k:Int×Int) (n:Int):Int×Int:=vN (k.1*n) k.2
def Om {k:Int×Int} (hk:yx k 200000 10000) {n:Int} (hn : -10000≤n∧n≤10000):(k.1*n).natAbs≤2000000000:=by
 have:=qy hk.num hn;omega
def WT {n:Int} (hn : -10000≤n∧n≤10000):Mn (n,1)=true:=by
 rw[om];exact⟨by simp,by simp,by simp; omega,by simp⟩
def agn {k:Int×Int} (hk:yx k 200000 10000) {n:Int} (hn : -10000≤n∧n≤10000):LC k (n,1)=some (aaM k n,0):=by
 have b:=Om hk hn;have p:=hk.pos;have q:=hk.den;unfold LC WH;rw[aa2 hk.rat (WT hn),À];rw[show ine (0:Int) 0=false from rfl,é,Ó (by simp only; omega) (by simp only; omega),Int.mul_one,Ó (by omega) (by omega),N3 (by omega) (by simp only; omega) (by omega),À];rfl
def PN {k:Int×Int} (hk:yx k 200000 10000) {n:Int} (hn : -10000≤n∧n≤10000):yx (aaM k n) 2000000000 10000:=by
 have b:=Om hk hn;have p:=hk.pos;have q:=hk.den;obtain⟨c1,c2⟩:=abz (n:=k.1*n) (show 0<k.2 by omega);exact⟨VM (by omega) (by omega) (by omega),by unfold aaM; omega,by unfold aaM; omega⟩
def cmpP (x y:Int×Int):Int:=if x=y then 0 else if x.1*y.2<y.1*x.2 then -1 else if y.1*x.2<x.1*y.2 then 1 else 0
def agf {x y:Int×Int} {m d:Int} (hx:yx x m d) (hy:yx y m d) (hm:m≤2000000000) (hd:d≤10000):LA x y=some (cmpP x y):=by
 have h1:=qy hx.num (show -d≤y.2∧y.2≤d from⟨by have:=hy.pos; have:=hy.den; omega,hy.den⟩);have h2:=qy hy.num (show -d≤x.2∧x.2≤d from⟨by have:=hx.pos; have:=hx.den; omega,hx.den⟩);have h0:0≤m∧0≤d:=⟨by have:=hx.num; omega,by have:=hx.pos; have:=hx.den; omega⟩;have h3:m*d≤2000000000*10000:=Int.mul_le_mul hm hd h0.2 (by omega);unfold LA Wz cmpP;rw[Ó (by omega) (by omega),Ó (by omega) (by omega)];simp only[Ċ,Bool.and_true,Bool.and_eq_true,decide_eq_true_eq,yk,ilt,igt,gt_iff_lt];have:(x.1=y.1∧x.2=y.2)↔x=y:=⟨fun h=>Prod.ext h.1 h.2,fun h=>by rw[h]; exact⟨rfl,rfl⟩⟩;simp only[this]
 (repeat' split)<;>rfl
def ZI (k:Int×Int) (heat:Int×Int):(Int×Int)×(Int×Int) :=
 if 0<cmpP (aaM k heat.1) (aaM k heat.2) then(aaM k heat.2,aaM k heat.1) else(aaM k heat.1,aaM k heat.2)
def agW {k heat:Int×Int} (hk:yx k 200000 10000) (hh:lZ heat (-10000) 10000=true):oF k heat=some (ZI k heat):=by
 simp only[lZ,Bool.and_eq_true,decide_eq_true_eq] at hh;obtain⟨h1,h2,h3⟩:=hh;have n1 : -10000≤heat.1∧heat.1≤10000:=⟨by omega,by omega⟩;have n2 : -10000≤heat.2∧heat.2≤10000:=⟨by omega,by omega⟩;have r1:yx (heat.1,1) 10000 10000:=⟨WT n1,n1,by simp⟩;have r2:yx (heat.2,1) 10000 10000:=⟨WT n2,n2,by simp⟩;unfold oF uV LB Ky sl sd;rw[aa2 r1.rat r2.rat,À];have:ieq 0 0=true:=rfl;rw[Ú this,agf r1 r2 (by omega) (by omega),À]
 have hc:ile (cmpP (heat.1,1) (heat.2,1)) 0=true:=by
  unfold cmpP;simp only[ile,decide_eq_true_eq,Int.mul_one]
  split
  ·omega
  ·split
   ·omega
   ·rw[if_neg (by omega)]; omega
 rw[hc,À];simp only[Bool.not_true,é];rw[RV hk.i64,hk.rat,À];simp only[Bool.not_true,é];rw[agn hk n1,À,agn hk n2,À];simp only[show ine (0:Int) 0=false from rfl,é];rw[agf (PN hk n1) (PN hk n2) (by omega) (by omega),À];unfold ZI;rw[Ċ]
 by_cases h:0<cmpP (aaM k heat.1) (aaM k heat.2)
 ·rw[if_pos h,if_pos (by simpa[igt] using h)]; rfl
 ·rw[if_neg h,if_neg (by simpa[igt] using h)]; rfl
def rateK (s:List (Int×Ā)) (c:Cmp):Int×Int:=subP (Mm s (ÿ c.2.2.1 c.2.2.2.1)) (Mm s (ÿ c.2.2.2.1 c.2.2.1))
def vu (b:Ĕ) (c:Cmp):(Int×Int)×(Int×Int):=ZI (rateK (œ b) c) c.2.2.2.2.2.2
def acG {b:Ĕ} (hs:t8 b) {c:Cmp} (hA:c.2.2.1.length≤1000) (hB:c.2.2.2.1.length≤1000)
 (h1:yx (Mm (œ b) (ÿ c.2.2.1 c.2.2.2.1)) 1000 100) (h2:yx (Mm (œ b) (ÿ c.2.2.2.1 c.2.2.1)) 1000 100) (hh:lZ c.2.2.2.2.2.2 (-10000) 10000=true):tV b c=some (vu b c):=by
 unfold tV FO;rw[EQ hs.gauges,À,xY (by omega) (by omega),À,SG,À,xY (by omega) (by omega),À,SG,À];unfold vy uW;rw[Sub_ok h1 h2,À,À]
 try dsimp only
 rw[agW (Vz h1 h2) hh,À];rfl
def AP (b:Ĕ) (c:Cmp):Int×Int :=
 (((c.2.2.1.length-1:Nat):Int)*b.1.1-((c.2.2.2.1.length-1:Nat):Int)*b.1.2,((c.2.2.1.length-1:Nat):Int)*b.1.2-((c.2.2.2.1.length-1:Nat):Int)*b.1.1)
def ae6 {b:Ĕ} {c:Cmp} (hA:c.2.2.1.length≤1000) (hB:c.2.2.2.1.length≤1000) (h1:0≤b.1.1) (h2:b.1.1≤1000000) (h3:0≤b.1.2) (h4:b.1.2≤1000000):yh b c=some (AP b c):=by
 unfold yh KR AP
 have e:∀n:Nat,WX 0 ((n:Int)-1)=((n-1:Nat):Int):=by
  intro n;unfold WX
  split<;>omega
 have bd:∀(n:Nat) (x:Int),n≤1000→0≤x→x≤1000000→0≤((n-1:Nat):Int)*x∧((n-1:Nat):Int)*x≤1000000000:=by
  intro n x hn h0 hx;refine⟨gK (by omega) h0,?_⟩;have:=fT (show((n-1:Nat):Int)≤1000 by omega) hx h0 (by omega);omega
 have b1:=bd _ _ hA h1 h2;have b2:=bd _ _ hA h3 h4;have b3:=bd _ _ hB h1 h2;have b4:=bd _ _ hB h3 h4;simp only[Ô];rw[Ó (by omega) (by omega),Ó (by omega) (by omega)];simp only[e];rw[Ó (by omega) (by omega),Ó (by omega) (by omega),Ó (by omega) (by omega),Ó (by omega) (by omega),Ó (by omega) (by omega),Ó (by omega) (by omega)]
def YS {n d:Int} (hd:1≤d) (hn : -4000000000≤n∧n≤4000000000):yf n d=some (n / d):=by
 unfold yf Kv
 have z:yk d 0=false:=by simp[yk]; omega
 rw[Ð z];have t:=Int.mul_tdiv_add_tmod n d
 have b1 : -4000000000≤Int.tdiv n d∧Int.tdiv n d≤4000000000:=by
  have:=Int.natAbs_tdiv_le_natAbs n d;omega
 rw[Ó (by omega) (by omega),Ð z,Ċ]
 by_cases h:Int.tmod n d<0
 ·rw[if_pos (by simpa[ilt] using h),Ó (by omega) (by omega)];congr 1
  have h5 : -d<Int.tmod n d:=by
   have h6:=Int.natAbs_tmod n d;have h7:=Nat.mod_lt n.natAbs (show 0<d.natAbs by omega);omega
  refine(Int.ediv_eq_iff_of_pos (by omega)).2 ⟨?_,?_⟩ |>.symm
  ·rw[Int.sub_mul,gW]; omega
  ·rw[Int.sub_mul,gW (Int.tdiv n d)]; omega
 ·rw[if_neg (by simpa[ilt] using h)];congr 1
  have h5:Int.tmod n d<d:=by
   have h6:=Int.natAbs_tmod n d;have h7:=Nat.mod_lt n.natAbs (show 0<d.natAbs by omega);omega
  refine(Int.ediv_eq_iff_of_pos (by omega)).2 ⟨?_,?_⟩ |>.symm
  ·rw[gW]; omega
  ·rw[gW (Int.tdiv n d)]; omega
def afS {x:Int×Int} (hx:Mn x=true):jM [x]=some 0:=by
 rw[XJ]
 ·simp[hx]
 ·intro r hr
  have:Mn r=true:=by simp at hr; subst hr; assumption
  have:=((om r).1 this).2.2.1;exact⟨by omega,by omega⟩
 ·simp
def aaw (r:Int×Int):Int:=-(-r.1 / r.2)
def afP {r:Int×Int} (h:Mn r=true):Ep r=some (r.1 / r.2,0):=by
 unfold Ep KA;have:=(om r).1 h;rw[afS h,À];rw[show ine (0:Int) 0=false from rfl,é,YS (by omega) (by omega),À]
def Gg {n d:Int} (hd:1≤d):(n / d).natAbs≤n.natAbs:=by
 exact Int.natAbs_ediv_le_natAbs n d
def ahJ {r:Int×Int} (h:Mn r=true):IA r=some (aaw r,0):=by
 unfold IA QI aaw;have:=(om r).1 h;rw[afS h,À];rw[show ine (0:Int) 0=false from rfl,é,Ó (by omega) (by omega),YS (by omega) (by omega),À];have hb:=Gg (n:=0-r.1) (show 1≤r.2 by omega);rw[Ó (by omega) (by omega),Int.zero_sub,Int.zero_sub]
def wG (b:Ĕ) (c:Cmp):Int×Int :=
 (c.2.2.2.2.1-c.2.2.2.2.2.1-(AP b c).2-(vu b c).2.1 / (vu b c).2.2,c.2.2.2.2.1+c.2.2.2.2.2.1-(AP b c).1-aaw (vu b c).1)
structure Ξ (b:Ĕ):Prop where
 film:0≤b.1.1∧b.1.1≤b.1.2∧b.1.2≤1000000
 nG:b.2.1.length≤12
 nU:b.2.2.1.length≤40
 nL:b.2.2.2.1.length≤12
 nC:b.2.2.2.2.1.length≤40
 nK:b.2.2.2.2.2.length≤10
 gauge:∀g∈b.2.1,AO g=true
 ids:b.2.1.Pairwise fun a b=>a.1<b.1
 uses:∀u∈b.2.2.1,Gv (œ b) u.1 u.2=0
 loans:∀i l,b.2.2.2.1[i]?=some l→Rb b (œ b) i l=0
 compares:∀i c,b.2.2.2.2.1[i]?=some c→oH b (œ b) i c=0
 looks:∀u∈b.2.2.2.2.2,Gv (œ b) u.1 u.2=0
 nodes:(Ò b).length≤59
 links:2*(Ò b).length+2*b.2.2.2.2.1.length≤300
def B0 (b:Ĕ):mB b=0↔(∀g∈b.2.1,AO g=true)∧b.2.1.Pairwise fun a b=>a.1<b.1:=by
 have h0:Ŋ (yc b.2.1) 0 b.2.1=none↔(∀g∈b.2.1,AO g=true)∧b.2.1.Pairwise fun a b=>a.1<b.1:=by
  rw[i7,←IG (fun g:Ā=>g.1) b.2.1];constructor
  ·intro h
   have h1:∀(j:Nat) (a:Ā),b.2.1[j]?=some a→AO a=true∧t7 (fun g:Ā=>g.1) b.2.1 j a=false:=by
    intro j a ha;have:=h j a ha;rw[Nat.zero_add] at this;unfold yc at this
    split at this
    ·cases this
    ·split at this
     ·cases this
     ·rename_i h1 h2;exact⟨by simpa using h1,by simpa using h2⟩
   refine⟨fun x hx=>?_,fun i a ha=>(h1 i a ha).2⟩;obtain⟨j,hj,rfl⟩:=cT.1 hx;exact(h1 j _ (cG hj)).1
  ·rintro⟨h1,h2⟩ j a ha;rw[dw];simp[yc,h1 a (cP ha),h2 j a ha]
 rw[←h0];unfold mB
 cases h:Ŋ (yc b.2.1) 0 b.2.1 with
 |none=>simp
 |some e =>
  have:∀(m:List Ā) (j:Nat) (x:Int),Ŋ (yc b.2.1) j m=some x→x≠0:=by
   intro m
   induction m with
   |nil=>intro j x h; cases h
   |cons a m ih =>
    intro j x h;unfold Ŋ at h
    cases hp:yc b.2.1 j a with
    |none=>rw[hp] at h; exact ih _ _ h
    |some y =>
     rw[hp] at h;cases h;unfold yc at hp
     split at hp
     ·cases hp; omega
     ·split at hp
      ·cases hp; omega
      ·cases hp
  simp[this _ _ _ h]
def ś (b:Ĕ):Ġ b=0↔Ξ b:=by
 unfold Ġ;constructor
 ·intro h
  split at h
  ·omega
  rename_i h1
  (repeat' split at h)<;>try omega
  ·rename_i hg
   have hg':mB b≠0:=by simpa using hg
   exact(hg' h).elim
  ·rename_i hf;have:=f5 hf;rename_i e;simp at this;exact(this h).elim
  ·rename_i hn1 hn2 hn3 hn4 hn5 hg e hf hn6 hn7
   have hg0:mB b=0:=by simpa using hg
   obtain⟨g1,g2⟩:=(B0 b).1 hg0
   have hall:∀x∈qt b (œ b),x=0:=fun x hx=>by
    have:=eo.1 hf x hx;simpa using this
   simp only[qt,cN] at hall
   have hs:lZ b.1 0 1000000=true:=by simpa using h1
   simp only[lZ,cI,decide_eq_true_eq] at hs;refine⟨⟨hs.1,hs.2.1,hs.2.2⟩,by omega,by omega,by omega,by omega,by omega,g1,g2,fun u hu=>hall _ (.inl (dt.2 ⟨u,hu,rfl⟩)),fun i l hl=>?_,fun i c hc=>?_,fun u hu=>hall _ (.inr (.inr (.inr (dt.2 ⟨u,hu,rfl⟩)))),by omega,by omega⟩
   ·obtain⟨hi,rfl⟩:=cJ.1 hl;exact hall _ (.inr (.inl (List.mem_mapIdx.2 ⟨i,hi,rfl⟩)))
   ·obtain⟨hi,rfl⟩:=cJ.1 hc;exact hall _ (.inr (.inr (.inl (List.mem_mapIdx.2 ⟨i,hi,rfl⟩))))
 ·intro h
  have hs:lZ b.1 0 1000000=true:=by simp[lZ,h.film.1,h.film.2.1,h.film.2.2]
  have hg:mB b=0:=(B0 b).2 ⟨h.gauge,h.ids⟩
  have hall:(qt b (œ b)).find? (fun e=>e != 0)=none:=by
   rw[eo];intro x hx;simp only[qt,cN,dt,List.mem_mapIdx] at hx
   have:x=0:=by
    rcases hx with⟨u,hu,rfl⟩|⟨i,hi,rfl⟩|⟨i,hi,rfl⟩|⟨u,hu,rfl⟩
    ·exact h.uses u hu
    ·exact h.loans i _ (cG hi)
    ·exact h.compares i _ (cG hi)
    ·exact h.looks u hu
   simp[this]
  have:=h.nG; have:=h.nU; have:=h.nL; have:=h.nC; have:=h.nK; have:=h.nodes; have:=h.links;rw[hs,hg,hall];simp only[dB,cV,if_false,bne_self_eq_false];rw[if_neg (by omega),if_neg (by omega),if_neg (by omega),if_neg (by omega),if_neg (by omega),if_neg (by omega),if_neg (by omega)]
section
variable {b:Ĕ}
def jF {l:List Int} (h:wL l=true):l.length≤6:=((I7 l).1 h).2.2
def Ξ.nums (h:Ξ b) {c:Cmp} (hc:c∈b.2.2.2.2.1):ZO c=true:=by
 obtain⟨i,hi,rfl⟩:=List.mem_iff_getElem.1 hc;have:=h.compares i _ (List.getElem?_eq_getElem hi);unfold oH at this
 split at this
 ·omega
 ·rename_i h; simpa using h
def Ξ.pilesOf (h:Ξ b) {c:Cmp} (hc:c∈b.2.2.2.2.1):wJ b (œ b) c=0:=by
 obtain⟨i,hi,rfl⟩:=List.mem_iff_getElem.1 hc;have:=h.compares i _ (List.getElem?_eq_getElem hi);unfold oH at this
 split at this
 ·omega
 ·split at this
  ·omega
  ·exact this
def kJ (c:Cmp):ZO c=true↔(1≤c.1∧c.1≤1099511627776)∧(0≤c.2.1∧c.2.1≤20000)∧(-1125899906842624≤c.2.2.2.2.1∧c.2.2.2.2.1≤1125899906842624)∧(0≤c.2.2.2.2.2.1∧c.2.2.2.2.2.1≤1073741824)∧lZ c.2.2.2.2.2.2 (-10000) 10000=true∧wL c.2.2.1=true∧wL c.2.2.2.1=true:=by
 simp[ZO,inP,IE,and_assoc]
def Ξ.size (h:Ξ b):t8 b:=by
 have h1:=h.nG; have h2:=h.nU; have h3:=h.nL; have h4:=h.nC; have h5:=h.nK;refine⟨by omega,by omega,by omega,by omega,by omega,fun c hc=>?_⟩;have:=(kJ c).1 (h.nums hc);have a:=jF this.2.2.2.2.2.1;have b:=jF this.2.2.2.2.2.2;omega
def OX (g:Ā):AO g=true↔Mn g.2.2.2.2.1=true∧(-1000≤g.2.2.2.2.1.1∧g.2.2.2.2.1.1≤1000)∧g.2.2.2.2.1.2≤100∧(1≤g.1∧g.1≤1099511627776)∧(0≤g.2.1∧g.2.1≤20000)∧(1≤g.2.2.1∧g.2.2.1≤1125899906842624)∧(-1073741824≤g.2.2.2.1.1∧g.2.2.2.1.1≤g.2.2.2.1.2∧g.2.2.2.1.2≤1073741824)∧(0≤g.2.2.2.2.2∧g.2.2.2.2.2≤1048576):=by
 simp[AO,inP,IE,lZ,and_assoc]
def ii {id:Int} {g:Ā} (h:ö b id=some g):g∈b.2.1∧g.1=id:=by
 unfold ö at h;exact⟨List.mem_of_find?_eq_some h,by simpa using List.find?_some h⟩
def vv (hi:b.2.1.Pairwise fun a b=>a.1<b.1) {g:Ā} (hg:g∈b.2.1):ö b g.1=some g:=by
 unfold ö
 induction hl:b.2.1 generalizing b with
 |nil=>rw[hl] at hg; cases hg
 |cons a t ih =>
  rw[hl] at hg hi;rw[dz] at hi;rw[fw];rcases cO.1 hg with rfl|hg
  ·simp
  ·have h1:=hi.1 g hg
   have:(a.1==g.1)=false:=by simp; omega
   rw[this];have:=ih (b:=(b.1,t,b.2.2)) hi.2 hg rfl;exact this
def E5 (h:Ξ b) {id day:Int} (hm:mW (œ b) id day=0):∃g,ö b id=some g∧g.2.1≤day:=by
 unfold mW at hm;rw[yD h.ids] at hm
 split at hm
 ·rename_i g hg
  split at hm
  ·omega
  ·exact⟨g,hg,by omega⟩
 ·omega
def Jr (s:List (Int×Ā)) (id day:Int):mW s id day=0∨mW s id day=4∨mW s id day=5:=by
 unfold mW
 split
 ·split<;>simp
 ·simp
def Ξ.pile (h:Ξ b) {c:Cmp} (hc:c∈b.2.2.2.2.1) {x:Int} (hx:x∈c.2.2.1++c.2.2.2.1):(∃g,ö b x=some g∧g.2.1≤c.2.1)∧lM b x c.2.1=none:=by
 have hp:=h.pilesOf hc;unfold wJ at hp
 split at hp
 ·omega
 rename_i h5
 split at hp
 ·omega
 rename_i h4
 split at hp
 ·omega
 rename_i h9;have a5:=(dN.1 (ej.2 h5)) x hx;have a4:=(dN.1 (ej.2 h4)) x hx;have a9:=(dN.1 (ej.2 h9)) x hx;simp at a5 a4 a9;refine⟨E5 h ?_,a9⟩;rcases Jr (œ b) x c.2.1 with h0|h0|h0
 ·exact h0
 ·exact(a4 h0).elim
 ·exact(a5 h0).elim
def Ξ.lefts (h:Ξ b) {c:Cmp} (hc:c∈b.2.2.2.2.1):(ÿ c.2.2.1 c.2.2.2.1).length≤1∧(ÿ c.2.2.2.1 c.2.2.1).length≤1∧(ÿ c.2.2.1 c.2.2.2.1).length+(ÿ c.2.2.2.1 c.2.2.1).length≠0:=by
 have hp:=h.pilesOf hc;unfold wJ at hp
 (repeat' split at hp)<;>first|omega|exact⟨by omega,by omega,by omega⟩
def nJ {a c:List Int} {x:Int}:x∈ÿ a c↔x∈a∧x∉c:=by
 simp[ÿ]
def Ξ.rate (h:Ξ b) {p:List Int} (hp:∀x∈p,∃g,ö b x=some g):yx (Mm (œ b) p) 1000 100:=by
 unfold Mm
 cases p with
 |nil =>
  have:yx (0,1) 1000 100:=⟨by decide,by decide,by decide⟩;exact this
 |cons x t =>
  obtain⟨g,hg⟩:=hp x (by simp)
  try dsimp only
  rw[yD h.ids,hg];have:=(OX g).1 (h.gauge g (ii hg).1);exact⟨this.1,this.2.1,this.2.2.1⟩
def Ξ.rates (h:Ξ b) {c:Cmp} (hc:c∈b.2.2.2.2.1):yx (Mm (œ b) (ÿ c.2.2.1 c.2.2.2.1)) 1000 100∧yx (Mm (œ b) (ÿ c.2.2.2.1 c.2.2.1)) 1000 100:=by
 constructor
 ·exact h.rate fun x hx=>by
   obtain⟨⟨g,hg,_⟩,_⟩:=h.pile hc (dD _ (nJ.1 hx).1);exact⟨g,hg⟩
 ·exact h.rate fun x hx=>by
   obtain⟨⟨g,hg,_⟩,_⟩:=h.pile hc (dC _ (nJ.1 hx).1);exact⟨g,hg⟩
def Ξ.growth (h:Ξ b) {c:Cmp} (hc:c∈b.2.2.2.2.1):tV b c=some (vu b c):=by
 obtain⟨r1,r2⟩:=h.rates hc;have hn:=(kJ c).1 (h.nums hc);have a:=jF hn.2.2.2.2.2.1;have b:=jF hn.2.2.2.2.2.2;exact acG h.size (by omega) (by omega) r1 r2 hn.2.2.2.2.1
def Ξ.films (h:Ξ b) {c:Cmp} (hA:c.2.2.1.length≤1000) (hB:c.2.2.2.1.length≤1000):yh b c=some (AP b c):=by
 have:=h.film;exact ae6 hA hB (by omega) (by omega) (by omega) (by omega)
def Yn {k heat:Int×Int} (hk:yx k 200000 10000) (hh:lZ heat (-10000) 10000=true):yx (ZI k heat).1 2000000000 10000∧yx (ZI k heat).2 2000000000 10000:=by
 simp only[lZ,Bool.and_eq_true,decide_eq_true_eq] at hh;have r1:=PN hk (n:=heat.1) ⟨by omega,by omega⟩;have r2:=PN hk (n:=heat.2) ⟨by omega,by omega⟩;unfold ZI
 split
 ·exact⟨r2,r1⟩
 ·exact⟨r1,r2⟩
def Lw {c:Cmp} (hA:c.2.2.1.length≤1000) (hB:c.2.2.2.1.length≤1000) (h1:0≤b.1.1) (h2:b.1.1≤1000000) (h3:0≤b.1.2) (h4:b.1.2≤1000000) :
 (-1000000000≤(AP b c).1∧(AP b c).1≤1000000000)∧(-1000000000≤(AP b c).2∧(AP b c).2≤1000000000):=by
 have bd:∀(n:Nat) (x:Int),n≤1000→0≤x→x≤1000000→0≤((n-1:Nat):Int)*x∧((n-1:Nat):Int)*x≤1000000000:=by
  intro n x hn h0 hx;refine⟨gK (by omega) h0,?_⟩;have:=fT (show((n-1:Nat):Int)≤1000 by omega) hx h0 (by omega);omega
 have b1:=bd _ _ hA h1 h2;have b2:=bd _ _ hA h3 h4;have b3:=bd _ _ hB h1 h2;have b4:=bd _ _ hB h3 h4;unfold AP
 try dsimp only
 omega
def Lt {r:Int×Int} (h:yx r 2000000000 10000) : -2000000000≤r.1 / r.2∧r.1 / r.2≤2000000000:=by
 have:=Gg (n:=r.1) h.pos;have:=h.num;omega
def Pb {r:Int×Int} (h:yx r 2000000000 10000) : -2000000000≤aaw r∧aaw r≤2000000000:=by
 have:=Gg (n:=-r.1) h.pos;have:=h.num;unfold aaw;omega
def Ξ.says (h:Ξ b) {c:Cmp} (hc:c∈b.2.2.2.2.1):yX b c=some (wG b c):=by
 obtain⟨r1,r2⟩:=h.rates hc;have hn:=(kJ c).1 (h.nums hc);have ha:=jF hn.2.2.2.2.2.1;have hb:=jF hn.2.2.2.2.2.2;have hf:=h.film;obtain⟨g1,g2⟩:=Yn (Vz r1 r2) hn.2.2.2.2.1;have fb:=Lw (b:=b) (c:=c) (by omega) (by omega) (by omega) (by omega) (by omega) (by omega);have q1:yx (vu b c).1 2000000000 10000:=g1;have q2:yx (vu b c).2 2000000000 10000:=g2;have c1:=Pb q1;have c2:=Lt q2;unfold yX QK wG;rw[h.growth hc,À,h.films (by omega) (by omega),À,afP q2.rat,À,ahJ q1.rat,À]
 try dsimp only
 have n3:=hn.2.2.1;have n4:=hn.2.2.2.1;rw[Ó (by omega) (by omega),Ó (by omega) (by omega),Ó (by omega) (by omega),Ó (by omega) (by omega),Ó (by omega) (by omega),Ó (by omega) (by omega)]
end
def Ę (l:IH) (f t:Int):Int:=min l.2.1.2 (t-1)-max l.2.1.1 f+1
def ĸ (id f t:Int):List IH→Int
 |[]=>0
 |l::r=>(if l.1=id∧0<Ę l f t then Ę l f t*l.2.2 else 0)+ĸ id f t r
def xV (id f t:Int):∀(x y:List IH),ĸ id f t (x++y)=ĸ id f t x+ĸ id f t y
 |[],y=>by simp[ĸ]
 |l::r,y=>by
  simp only[eR,ĸ,xV id f t r y];omega
def iH (b:Ĕ) (id f t:Int):List Int:=(b.2.2.1.filter fun u=>u.1==id&&inP u.2 f (t-1)).map fun u=>u.2
def lm (b:Ĕ) (g:Ā) (f t:Int):Int:=ĸ g.1 f t b.2.2.2.1+(Vn (iH b g.1 f t)).length*g.2.2.2.2.2
def WW (a c:Int):YH a c=min a c:=by unfold YH; split<;>omega
def acC (a c:Int):WX a c=max a c:=by unfold WX; split<;>omega
def oU {b:Ĕ} (h:Ξ b) {l:IH} (hl:l∈b.2.2.2.1):(0≤l.2.1.1∧l.2.1.1≤l.2.1.2∧l.2.1.2≤20000)∧(0≤l.2.2∧l.2.2≤1048576):=by
 obtain⟨i,hi,rfl⟩:=List.mem_iff_getElem.1 hl;have:=h.loans i _ (List.getElem?_eq_getElem hi);unfold Rb at this
 split at this
 ·omega
 rename_i h1
 split at this
 ·omega
 rename_i h2;simp only[eh,gM,lZ,inP,cI,decide_eq_true_eq] at h1 h2;exact⟨h1,h2⟩
def OO {l:IH} (h:(0≤l.2.1.1∧l.2.1.1≤l.2.1.2∧l.2.1.2≤20000)∧(0≤l.2.2∧l.2.2≤1048576)) {f t:Int} (hf:0≤f) (hd:0<Ę l f t):0≤Ę l f t*l.2.2∧Ę l f t*l.2.2≤20001*1048576:=by
 refine⟨Int.mul_nonneg (by omega) h.2.1,Int.mul_le_mul ?_ h.2.2 h.2.1 (by omega)⟩;unfold Ę;omega
def sg {id f t:Int} (hf:0≤f):∀{x:List IH},(∀l∈x,(0≤l.2.1.1∧l.2.1.1≤l.2.1.2∧l.2.1.2≤20000)∧(0≤l.2.2∧l.2.2≤1048576))→0≤ĸ id f t x∧ĸ id f t x≤x.length*(20001*1048576)
 |[],_=>by simp[ĸ]
 |l::r,h=>by
  have ih:=sg (id:=id) (t:=t) hf (x:=r) fun l hl=>h l (by simp[hl]);simp only[ĸ,cX,gy,gh,gA]
  split
  ·rename_i hc;have:=OO (h l (by simp)) hf hc.2;omega
  ·omega
def ag3 {b:Ĕ} (h:Ξ b) {g:Ā} (hg:0≤g.2.2.2.2.2∧g.2.2.2.2.2≤1048576) {f t:Int} (hf:0≤f∧f≤100000) (ht:0≤t∧t≤100000):yY b g f t=some (lm b g f t):=by
 have hL:=h.nL;have hU:=h.nU
 have hlb:∀i,0≤ĸ g.1 f t (b.2.2.2.1.take i)∧ĸ g.1 f t (b.2.2.2.1.take i)≤12*(20001*1048576):=by
  intro i;have h1:=sg (id:=g.1) (t:=t) hf.1 (x:=b.2.2.2.1.take i) fun l hl=>oU h (fQ hl);have h2:((b.2.2.2.1.take i).length:Int)*(20001*1048576)≤12*(20001*1048576):=ft (by rw[dc]; omega) (by omega);omega
 unfold yY QO;refine ė (fun x:Int×Int=>∃i:Nat,i≤b.2.2.2.1.length∧x=(ĸ g.1 f t (b.2.2.2.1.take i),(i:Int))) (fun x=>b.2.2.2.1.length-x.2.toNat) ?_ ⟨0,by omega,rfl⟩;rintro x ⟨i,hi,rfl⟩;rcases Nat.lt_or_ge i b.2.2.2.1.length with hlt|hge
 ·have hl:b.2.2.2.1[i]?=some b.2.2.2.1[i]:=cG hlt;have hz:=oU h (cP hl);refine .inr ⟨(ĸ g.1 f t (b.2.2.2.1.take (i+1)),(i:Int)+1),⟨i+1,hlt,by simp⟩,by simp; omega,fun kn=>?_⟩
  try dsimp only
  unfold vf;have b1:=hlb i;have b2:=hlb (i+1)
  have e1:ĸ g.1 f t (b.2.2.2.1.take (i+1))=ĸ g.1 f t (b.2.2.2.1.take i)+(if b.2.2.2.1[i].1=g.1∧0<Ę b.2.2.2.1[i] f t then Ę b.2.2.2.1[i] f t*b.2.2.2.1[i].2.2 else 0):=by
   rw[take_succ hl,xV]; simp[ĸ]
  rw[Ï hlt,È hl,Ó (by omega) (by omega),WW,acC,Ó (by omega) (by omega),Ó (by omega) (by omega)];rw[show min b.2.2.2.1[i].2.1.2 (t-1)-max b.2.2.2.1[i].2.1.1 f+1=Ę b.2.2.2.1[i] f t from rfl,Ċ]
  by_cases hid:b.2.2.2.1[i].1=g.1
  ·rw[if_pos (by simpa[ieq] using hid),Ċ]
   by_cases hd:0<Ę b.2.2.2.1[i] f t
   ·have lb:=OO hz hf.1 hd;rw[if_pos ⟨hid,hd⟩] at e1;rw[if_pos (by simpa[igt] using hd),Ó (by omega) (by omega),Ó (by omega) (by omega),Ë hlt (by omega),e1]
   ·rw[if_neg (fun hc=>hd hc.2)] at e1;rw[if_neg (by simpa[igt] using hd),Ë hlt (by omega),e1,gG]
  ·rw[if_neg (fun hc=>hid hc.1)] at e1;rw[if_neg (by simpa[ieq] using hid),Ë hlt (by omega),e1,gG]
 ·refine .inl fun kn=>?_
  have:i=b.2.2.2.1.length:=by omega
  subst this
  try dsimp only
  unfold vf;rw[Ý,List.take_length]
  have hud:∀x:List (Int×Int),x.length≤40→((x.filter fun u=>u.1==g.1&&inP u.2 f (t-1)).map fun u=>u.2).length≤40:=by
   intro x hx;rw[dA];exact cZ (dY _ _) hx
  refine ģ b.2.2.1 (fun i=>((b.2.2.1.take i).filter fun u=>u.1==g.1&&inP u.2 f (t-1)).map fun u=>u.2) _ rfl (fun i u hi hu kn'=>?_) (fun kn'=>?_)
  ·try dsimp only
   unfold vd;have hx:=hud (b.2.2.1.take i) (by rw[List.length_take]; omega);rw[Ï hi,È hu,Ó (by omega) (by omega),ι,À,Õ (by simp only[List.length_singleton]; omega),Am.iff_true,Ë hi (by omega),Ë hi (by omega),take_succ hu,List.filter_append,List.map_append]
   cases h1:(u.1==g.1) with
   |false =>
    have:ieq u.1 g.1=false:=h1;simp only[this,é,dU,h1,Bool.false_and,cV,if_false,eP,fu,dh]
   |true =>
    have:ieq u.1 g.1=true:=h1;rw[this]
    cases h2:inP u.2 f (t-1) with
    |false=>simp only[mQ,é,dU,h1,h2,eD,cV,if_false,eP,fu,dh]
    |true=>simp only[mQ,dU,h1,h2,eD,if_true,eP,fu,eM]
  ·try dsimp only
   unfold vd;rw[Ý,List.take_length];rw[show((b.2.2.1.filter fun u=>u.1==g.1&&inP u.2 f (t-1)).map fun u=>u.2)=iH b g.1 f t from rfl];have h40:(iH b g.1 f t).length≤40:=hud _ hU
   have hc40:(Vn (iH b g.1 f t)).length≤40:=by
    have:=If (iH b g.1 f t);omega
   have hm:0≤((Vn (iH b g.1 f t)).length:Int)*g.2.2.2.2.2∧((Vn (iH b g.1 f t)).length:Int)*g.2.2.2.2.2≤40*1048576 :=
    ⟨gK (by omega) hg.1,fT (by omega) hg.2 hg.1 (by omega)⟩
   have b1:=hlb b.2.2.2.1.length;rw[List.take_length] at b1;dsimp only;rw[Õ (by omega),Am.iff_true,Õ (by rw[Ss]; omega),Am.iff_true,abr,Ô,Ó (by omega) (by omega),Ó (by omega) (by omega)];rfl
def Ő (b:Ĕ) (g:Ā):List Lk :=
 [(0,atP (Ò b) [g.1] g.2.1,g.2.2.1+g.2.2.2.1.2),(atP (Ò b) [g.1] g.2.1,0,-(g.2.2.1+g.2.2.2.1.1))] ++
 (List.range ((ä b g).length-1)).flatMap fun(k:Nat)=>[(atP (Ò b) [g.1] g.2.1+k,atP (Ò b) [g.1] g.2.1+k+1,0),(atP (Ò b) [g.1] g.2.1+k+1,atP (Ò b) [g.1] g.2.1+k,lm b g ((ä b g)[k]?.getD 0) ((ä b g)[k+1]?.getD 0))]
def cx (b:Ĕ) (c:Cmp):Int:=atP (Ò b) (ÿ c.2.2.1 c.2.2.2.1) c.2.1
def cy (b:Ĕ) (c:Cmp):Int:=atP (Ò b) (ÿ c.2.2.2.1 c.2.2.1) c.2.1
def ja (b:Ĕ) (c:Cmp):List Lk:=[(cy b c,cx b c,(wG b c).2),(cx b c,cy b c,-(wG b c).1)]
def i6 (b:Ĕ):List Lk:=b.2.1.flatMap (Ő b)++b.2.2.2.2.1.flatMap (ja b)
def ig (b:Ĕ) (i:Nat) (g:Ā):List (Int×Int):=[(1,(i:Int)),(1,(i:Int))]++(List.range ((ä b g).length-1)).flatMap fun _=>[(2,(i:Int)),(2,(i:Int))]
def Pn (b:Ĕ):List (Int×Int):=(b.2.1.mapIdx (ig b)).flatten++(b.2.2.2.2.1.mapIdx fun i _=>[(3,(i:Int)),(3,(i:Int))]).flatten
section
variable {b:Ĕ}
def aa3 (h:Ξ b) {id day:Int} (hu:Gv (œ b) id day=0):(0≤day∧day≤20000)∧∃g,ö b id=some g∧g.2.1≤day:=by
 unfold Gv at hu
 split at hu
 ·omega
 ·rename_i hd;simp only[eh,gM,IE,inP,cI,decide_eq_true_eq] at hd;exact⟨hd,E5 h hu⟩
def Ż {g:Ā} {d:Int}:d∈ä b g↔d=g.2.1∨(∃c∈b.2.2.2.2.1,(c.2.2.1.contains g.1)≠(c.2.2.2.1.contains g.1)∧c.2.1=d)∨(∃n∈b.2.2.2.2.2,n.1=g.1∧n.2=d):=by
 unfold ä;rw[Cm,UQ];simp only[List.mem_append,List.mem_singleton,List.mem_map,List.mem_filter];constructor
 ·rintro((h|⟨c,⟨h1,h2⟩,h3⟩)|⟨n,⟨h1,h2⟩,h3⟩)
  ·exact .inl h
  ·exact .inr (.inl ⟨c,h1,by simpa using h2,h3⟩)
  ·exact .inr (.inr ⟨n,h1,by simpa using h2,h3⟩)
 ·rintro(h|⟨c,h1,h2,h3⟩|⟨n,h1,h2,h3⟩)
  ·exact .inl (.inl h)
  ·exact .inl (.inr ⟨c,⟨h1,by simpa using h2⟩,h3⟩)
  ·exact .inr ⟨n,⟨h1,by simpa using h2⟩,h3⟩
def Ξ.gaugeR (h:Ξ b) {g:Ā} (hg:g∈b.2.1):Mn g.2.2.2.2.1=true∧(-1000≤g.2.2.2.2.1.1∧g.2.2.2.2.1.1≤1000)∧g.2.2.2.2.1.2≤100∧(1≤g.1∧g.1≤1099511627776)∧(0≤g.2.1∧g.2.1≤20000)∧(1≤g.2.2.1∧g.2.2.1≤1125899906842624)∧(-1073741824≤g.2.2.2.1.1∧g.2.2.2.1.1≤g.2.2.2.1.2∧g.2.2.2.1.2≤1073741824)∧(0≤g.2.2.2.2.2∧g.2.2.2.2.2≤1048576):=(OX g).1 (h.gauge g hg)
def Ξ.day (h:Ξ b) {g:Ā} (hg:g∈b.2.1) {d:Int} (hd:d∈ä b g):g.2.1≤d∧0≤d∧d≤20000:=by
 have hr:=h.gaugeR hg;have hgo:=vv h.ids hg;rcases Ż.1 hd with rfl|⟨c,hc,h1,rfl⟩|⟨n,hn,h1,rfl⟩
 ·have:=hr.2.2.2.2.1; omega
 ·have hn:=(kJ c).1 (h.nums hc)
  have hx:g.1∈c.2.2.1++c.2.2.2.1:=by
   rw[cN]
   by_cases h2:g.1∈c.2.2.1
   ·exact .inl h2
   ·refine .inr ?_
    have e1:c.2.2.1.contains g.1=false:=by simpa using h2
    rw[e1] at h1
    have:c.2.2.2.1.contains g.1=true:=by cases hh:c.2.2.2.1.contains g.1<;>simp_all
    simpa using this
  obtain⟨⟨g',h3,h4⟩,_⟩:=h.pile hc hx;rw[hgo] at h3; cases h3;have:=hn.2.1;omega
 ·obtain⟨h2,g',h3,h4⟩:=aa3 h (h.looks n hn);rw[h1,hgo] at h3; cases h3;omega
def rK (g:Ā):g.2.1∈ä b g:=Ż.2 (.inl rfl)
def Rz (h:Ξ b) {g:Ā} (hg:g∈b.2.1):(ä b g).length≤59:=by
 have h1:∀l:List Ā,g∈l→(ä b g).length≤(l.flatMap fun g=>(ä b g).map fun d=>((g.1,d):Int×Int)).length:=by
  intro l
  induction l with
  |nil=>intro hg; cases hg
  |cons a t ih =>
   intro hg;rw[dG,cM,dA];rcases cO.1 hg with rfl|hg
   ·omega
   ·have:=ih hg; omega
 have:=h1 b.2.1 hg;have:=h.nodes;unfold Ò at this;omega
def adQ {p:List Int} {d:Int}:0≤atP (Ò b) p d∧atP (Ò b) p d≤(Ò b).length:=by
 unfold atP
 cases p with
 |nil=>simp
 |cons x t =>
  try dsimp only
  cases h:jB (Ò b) x d with
  |none=>simp
  |some j=>have:=(kj h).1; dsimp only; omega
def IZ (h:Ξ b) {c:Cmp} (hc:c∈b.2.2.2.2.1):(-1125904000000000≤(wG b c).1∧(wG b c).1≤1125904000000000)∧(-1125904000000000≤(wG b c).2∧(wG b c).2≤1125904000000000):=by
 obtain⟨r1,r2⟩:=h.rates hc;have hn:=(kJ c).1 (h.nums hc);have ha:=jF hn.2.2.2.2.2.1;have hb:=jF hn.2.2.2.2.2.2;have hf:=h.film;obtain⟨g1,g2⟩:=Yn (Vz r1 r2) hn.2.2.2.2.1;have fb:=Lw (b:=b) (c:=c) (by omega) (by omega) (by omega) (by omega) (by omega) (by omega);have q1:yx (vu b c).1 2000000000 10000:=g1;have q2:yx (vu b c).2 2000000000 10000:=g2;have c1:=Pb q1;have c2:=Lt q2;have n3:=hn.2.2.1;have n4:=hn.2.2.2.1;unfold wG
 try dsimp only
 omega
def vp (h:Ξ b) {g:Ā} (hg:g∈b.2.1) {f t:Int} (hf:0≤f):0≤lm b g f t∧lm b g f t≤12*(20001*1048576)+40*1048576:=by
 have hr:=(h.gaugeR hg).2.2.2.2.2.2.2;have h1:=sg (id:=g.1) (t:=t) hf (x:=b.2.2.2.1) fun l hl=>oU h hl;have h2:(b.2.2.2.1.length:Int)*(20001*1048576)≤12*(20001*1048576):=ft (by have:=h.nL; omega) (by omega)
 have h3:(iH b g.1 f t).length≤40:=by
  unfold iH;rw[List.length_map];exact Nat.le_trans (List.length_filter_le _ _) h.nU
 have h4:=If (iH b g.1 f t)
 have hm:0≤((Vn (iH b g.1 f t)).length:Int)*g.2.2.2.2.2∧((Vn (iH b g.1 f t)).length:Int)*g.2.2.2.2.2≤40*1048576 :=
  ⟨gK (by omega) hr.1,fT (by omega) hr.2 hr.1 (by omega)⟩
 unfold lm;omega
end
def uz {α β:Type} (f:Nat→α→β) {l:List α} {i:Nat} {a:α} (h:l[i]?=some a):(l.take (i+1)).mapIdx f=(l.take i).mapIdx f++[f i a]:=by
 have hi:i<l.length:=(cJ.1 h).1
 have:(l.take i).length=i:=by rw[dc]; omega
 rw[take_succ h,List.mapIdx_append];simp[this]
def ES {α:Type} (f:Nat→List α) (j:Nat):(List.range (j+1)).flatMap f=(List.range j).flatMap f++f j:=by
 rw[fN,fH]; simp
def pe {α:Type} (f:Nat→List α) (n:Nat) (h:∀k,(f k).length=2):((List.range n).flatMap f).length=2*n:=by
 induction n with
 |zero=>rfl
 |succ n ih=>rw[ES,cM,ih,h]; omega
set_option maxHeartbeats 2000000 in
def aeL {b:Ĕ} (h:Ξ b):IB b=some (b,Ò b,(((Ò b).length:Int)+1,i6 b),Pn b):=by
 unfold IB QN;have hN:=h.nodes;have hG:=h.nG;have hC:=h.nC;rw[PJ h.size,À,Ô,Ó (by omega) (by omega)]
 -- lengths of what comes
 have gl:∀g∈b.2.1,(Ő b g).length≤120∧∀i,(ig b i g).length≤120:=by
  intro g hg;have:=Rz h hg;constructor
  ·unfold Ő;rw[List.length_append,pe _ _ (fun _=>rfl)];simp only[List.length_cons,List.length_nil]; omega
  ·intro i;unfold ig;rw[List.length_append,pe _ _ (fun _=>rfl)];simp only[List.length_cons,List.length_nil]; omega
 have gls:∀i,((b.2.1.take i).flatMap (Ő b)).length≤1440∧(((b.2.1.take i).mapIdx (ig b)).flatten).length≤1440:=by
  intro i
  induction i with
  |zero=>simp
  |succ i ih =>
   have key:∀i,i≤b.2.1.length→((b.2.1.take i).flatMap (Ő b)).length≤i*120∧(((b.2.1.take i).mapIdx (ig b)).flatten).length≤i*120:=by
    intro i
    induction i with
    |zero=>intro _; simp
    |succ i ih =>
     intro hi;have ih:=ih (by omega);have hg:b.2.1[i]?=some b.2.1[i]:=cG hi;have h2:=gl _ (cP hg);have h3:=h2.2 i;rw[uz _ hg,take_succ hg,fH,List.flatten_append,cM,cM];simp only[dG,List.flatMap_nil,dh,List.flatten_cons,List.flatten_nil];omega
   rcases dg b.2.1.length (i+1) with h1|h1
   ·rw[dV (by omega)];have:=key b.2.1.length (cH _);rw[fI] at this;omega
   ·have:=key (i+1) h1;omega
 refine ģ b.2.1 (fun i=>((b.2.1.take i).flatMap (Ő b),((b.2.1.take i).mapIdx (ig b)).flatten)) _ rfl (fun i g hi hg kn=>?_) (fun kn=>?_)
 ·try dsimp only
  unfold vc;have hgm:=List.mem_of_getElem? hg;have hr:=h.gaugeR hgm;have hd:=Rz h hgm;have hls:=gls i;have hat:=adQ (b:=b) (p:=[g.1]) (d:=g.2.1);rw[Ï hi,È hg];rw[show oG ((b.1.1,b.1.2),b.2.1,b.2.2.1,b.2.2.2.1,b.2.2.2.2.1,b.2.2.2.2.2) g=oG b g from rfl,ac5 h.size,À];rw[ahB _ _ _ (by dsimp only; omega),À]
  try dsimp only
  have r1:=hr.2.2.2.2.2.1;have r2:=hr.2.2.2.2.2.2.1;rw[Ó (by omega) (by omega),Ó (by omega) (by omega),Ó (by omega) (by omega),Õ (by simp only[cX,dZ]; omega),Am.iff_true,Õ (by simp only[cX,dZ]; omega),Am.iff_true]
  refine ė (fun x:Int×List Lk×List (Int×Int)=>∃j:Nat,j+1≤(ä b g).length∧x.1=(j:Int)+1 ∧
   x.2.1=(b.2.1.take i).flatMap (Ő b)++([(0,atP (Ò b) [g.1] g.2.1,g.2.2.1+g.2.2.2.1.2),(atP (Ò b) [g.1] g.2.1,0,-(g.2.2.1+g.2.2.2.1.1))] ++
    (List.range j).flatMap fun(k:Nat)=>[(atP (Ò b) [g.1] g.2.1+k,atP (Ò b) [g.1] g.2.1+k+1,0),(atP (Ò b) [g.1] g.2.1+k+1,atP (Ò b) [g.1] g.2.1+k,lm b g ((ä b g)[k]?.getD 0) ((ä b g)[k+1]?.getD 0))]) ∧
   x.2.2=((b.2.1.take i).mapIdx (ig b)).flatten++([(1,(i:Int)),(1,(i:Int))]++(List.range j).flatMap fun _=>[(2,(i:Int)),(2,(i:Int))])) (fun x=>(ä b g).length-x.1.toNat) ?_
   ⟨0,List.length_pos_of_mem (rK g),rfl,by simp,by simp⟩
  rintro⟨x1,ls,ss⟩ ⟨j,hj,e1,e2,e3⟩;dsimp only at e1 e2 e3 ⊢;subst e1
  have hlls:ls.length≤1562:=by
   rw[e2,cM,cM,pe _ _ (fun _=>rfl)];simp only[cX,dZ]; omega
  have hlss:ss.length≤1562:=by
   rw[e3,cM,cM,pe _ _ (fun _=>rfl)];simp only[cX,dZ]; omega
  rcases dg (j+1) (ä b g).length with hlt|hge
  ·refine .inr ⟨((j:Int)+1+1,_,_),⟨j+1,hlt,by push_cast; rfl,rfl,rfl⟩,by dsimp only; omega,fun kn'=>?_⟩
   try dsimp only
   unfold uZ
   have g1:(ä b g)[j]?=some ((ä b g)[j]?.getD 0):=by rw[cG (by omega)]; rfl
   have g2:(ä b g)[j+1]?=some ((ä b g)[j+1]?.getD 0):=by rw[cG hlt]; rfl
   have d1:=h.day hgm (cP g1);have d2:=h.day hgm (cP g2);have lb:=vp h hgm (t:=(ä b g)[j+1]?.getD 0) d1.2.1
   have ec:((j:Int)+1)=((j+1:Nat):Int):=by push_cast; rfl
   rw[ec,Ï hlt,Ó (by omega) (by omega),Ó (by omega) (by omega),Ó (by omega) (by omega),Ó (by omega) (by omega)];rw[show(((j+1:Nat):Int)-1)=((j:Nat):Int) by omega,È g1,È g2];rw[show yY ((b.1.1,b.1.2),b.2.1,b.2.2.1,b.2.2.2.1,b.2.2.2.2.1,b.2.2.2.2.2) (g.1,g.2.1,g.2.2.1,(g.2.2.2.1.1,g.2.2.2.1.2),(g.2.2.2.2.1.1,g.2.2.2.2.1.2),g.2.2.2.2.2) ((ä b g)[j]?.getD 0) ((ä b g)[j+1]?.getD 0)=yY b g ((ä b g)[j]?.getD 0) ((ä b g)[j+1]?.getD 0) from rfl];rw[ag3 h hr.2.2.2.2.2.2.2 ⟨by omega,by omega⟩ ⟨by omega,by omega⟩,À,Ó (by omega) (by omega),Ó (by omega) (by omega),Õ (by simp only[cX,dZ]; omega),Am.iff_true,Õ (by simp only[cX,dZ]; omega),Am.iff_true,Ë hlt (by omega)];rw[ES,ES,e2,e3]
   have a1:atP (Ò b) [g.1] g.2.1+((j+1:Nat):Int)-1=atP (Ò b) [g.1] g.2.1+(j:Int):=by push_cast; omega
   have a2:atP (Ò b) [g.1] g.2.1+((j+1:Nat):Int)=atP (Ò b) [g.1] g.2.1+(j:Int)+1:=by push_cast; omega
   have a3:0-(0-lm b g ((ä b g)[j]?.getD 0) ((ä b g)[j+1]?.getD 0))=lm b g ((ä b g)[j]?.getD 0) ((ä b g)[j+1]?.getD 0):=by omega
   rw[a1,a2,a3];simp only[cR]
  ·refine .inl fun kn'=>?_
   have hje:j+1=(ä b g).length:=by omega
   unfold uZ;rw[show((j:Int)+1)=(((ä b g).length:Nat):Int) by rw[←hje]; push_cast; rfl,Ý];dsimp only;rw[Ë hi (by omega)];rw[uz _ hg,take_succ hg,List.flatMap_append,List.flatten_append,e2,e3,show j=(ä b g).length-1 by omega];simp only[List.flatMap_cons,List.flatMap_nil,List.append_nil,List.flatten_cons,List.flatten_nil];rfl
 ·try dsimp only
  unfold vc;rw[Ý,List.take_length];have hls:=gls b.2.1.length;rw[List.take_length] at hls
  have cl:∀i,i≤b.2.2.2.2.1.length→((b.2.2.2.2.1.take i).flatMap (ja b)).length=2*i∧(((b.2.2.2.2.1.take i).mapIdx fun i _=>[((3:Int),(i:Int)),((3:Int),(i:Int))]).flatten).length=2*i:=by
   intro i
   induction i with
   |zero=>intro _; simp
   |succ i ih =>
    intro hi;have ih:=ih (by omega);have hg:b.2.2.2.2.1[i]?=some b.2.2.2.2.1[i]:=cG hi;rw[uz _ hg,take_succ hg,fH,List.flatten_append,cM,cM];simp only[dG,List.flatMap_nil,dh,List.flatten_cons,List.flatten_nil,ja,cX,dZ];omega
  refine ģ b.2.2.2.2.1 (fun i=>(b.2.1.flatMap (Ő b)++(b.2.2.2.2.1.take i).flatMap (ja b),(b.2.1.mapIdx (ig b)).flatten++((b.2.2.2.2.1.take i).mapIdx fun i _=>[((3:Int),(i:Int)),((3:Int),(i:Int))]).flatten)) _ (by simp) (fun i c hi hc kn'=>?_) (fun kn'=>?_)
  ·try dsimp only
   unfold uY;have hcm:=List.mem_of_getElem? hc;have hn:=(kJ c).1 (h.nums hcm);have ha:=jF hn.2.2.2.2.2.1;have hb:=jF hn.2.2.2.2.2.2;have sb:=IZ h hcm;have c1:=cl i (by omega);rw[Ï hi,È hc,xY (by omega) (by omega),À,ahB _ _ _ (by dsimp only; omega),À,xY (by omega) (by omega),À,ahB _ _ _ (by dsimp only; omega),À];rw[show yX ((b.1.1,b.1.2),b.2.1,b.2.2.1,b.2.2.2.1,b.2.2.2.2.1,b.2.2.2.2.2) c=yX b c from rfl,h.says hcm,À];rw[Ó (by omega) (by omega),Õ (by simp only[List.length_append,List.length_cons,List.length_nil]; omega),Am.iff_true,Õ (by simp only[List.length_append,List.length_cons,List.length_nil]; omega),Am.iff_true,Ë hi (by omega),uz _ hc,take_succ hc,List.flatMap_append,List.flatten_append];simp only[List.flatMap_cons,List.flatMap_nil,List.append_nil,List.flatten_cons,List.flatten_nil,List.append_assoc,Int.zero_sub];rfl
  ·try dsimp only
   unfold uY;rw[Ý,List.take_length];rfl
section
variable {ρ:Type}
def wv (w:List Bool) (v:Int):Bool:=w[v.toNat]?.getD false
def XF {w:List Bool} {u v:Int} (hu:0≤u) (hv:0≤v) (h:u.toNat<w.length) (y:Bool):wv (w.set u.toNat y) v=if v=u then y else wv w v:=by
 unfold wv;rw[List.getElem?_set]
 by_cases hvu:v=u
 ·subst hvu; simp[h]
 ·have:¬u.toNat=v.toNat:=by omega
  simp[hvu,this]
def j9 {x:List Int} {v:Int} (h:v.toNat<x.length) (f:Int→Option ρ):Ĺ x v.toNat f=f (gv x v):=iN (YJ h) f
def PL {w:List Bool} {v:Int} (h:v.toNat<w.length) (f:Bool→Option ρ):Ĺ w v.toNat f=f (wv w v):=by
 refine iN ?_ f;unfold wv; rw[List.getElem?_eq_getElem h]; rfl
def Α {v:Int} {n:Nat} (h0:0≤v) (h1:v<n) (x:Option ρ):á ((ile 0 v)&&(ilt v (n:Int))) x=x:=by
 have:((ile 0 v)&&(ilt v (n:Int)))=true:=by simp[ile,ilt,h0,h1]
 rw[this,Am.iff_true]
end
def pP (n least:Int):List Lk→List Int→List Bool→List Int→Bool×List Int×List Bool×List Int
 |[],x,w,q=>(true,x,w,q)
 |l::t,x,w,q =>
  if l.1≠n then pP n least t x w q else
  if gv x l.2.1≤gv x n+l.2.2 then pP n least t x w q else
  if gv x n+l.2.2<least then(false,x.set l.2.1.toNat (gv x n+l.2.2),w,q) else
  if wv w l.2.1 then pP n least t (x.set l.2.1.toNat (gv x n+l.2.2)) w q else pP n least t (x.set l.2.1.toNat (gv x n+l.2.2)) (w.set l.2.1.toNat true) (q++[l.2.1])
structure iz (L:List Lk) (N:Nat) (M:Int):Prop where
 inr:InR L N
 noloop:∀l∈L,l.1≠l.2.1
 most:∀l∈L,-M≤l.2.2∧l.2.2≤M
 len:L.length≤400
 nodes:N≤1000
 m0:0≤M
 m1:M≤4503599627370496
set_option maxHeartbeats 1000000 in
def aeZ {ρ:Type} {L:List Lk} {N:Nat} {M:Int} (hL:iz L N M) {n least:Int} (hn:0≤n∧n<N) {x:List Int} {w:List Bool} {q:List Int} (hx:x.length=N) (hw:w.length=N) (hq:q.length≤1000000)
 (hb : -2305843009213693952≤gv x n∧gv x n≤2305843009213693952) (K0:(Val (.pair .bool (.pair (.slice tI) (.pair (.slice .bool) (.slice tI)))))→Option ρ) (K1:(Val (.pair (.slice tI) (.pair (.slice .bool) (.slice tI))))→Option ρ) :
 Ê (fun(v47:(Val (.pair tI (.pair (.slice tI) (.pair (.slice .bool) (.slice tI)))))) kk52=>iY [] least n L (Ù L) v47.1 v47.2.1 v47.2.2.1 v47.2.2.2 (fun u48 u49 u50 u51=>kk52 (u48,u49,u50,u51)) K0 K1) ((0:Int),x,w,q) =
  match pP n least L x w q with
  |(true,r)=>K1 r
  |(false,r)=>K0 (false,r):=by
 have hlen:=hL.len
 refine Ra L (fun i (s:List Int×List Bool×List Int) t=>match pP n least t s.1 s.2.1 s.2.2 with|(true,r)=>K1 r|(false,r)=>K0 (false,r))
  (fun i s=>s.1.length=N∧s.2.1.length=N∧gv s.1 n=gv x n∧s.2.2.length≤1000000+i) (fun s hs kn=>?_) (fun i l t s hd hi hl hI kn hk=>?_) (s:=(x,w,q)) ⟨hx,hw,rfl,by simpa using hq⟩
 ·try dsimp only
  unfold iY;rw[Ý];rfl
 ·obtain⟨y,u,p⟩:=s;obtain⟨h1,h2,h3,h4⟩:=hI;dsimp only at h1 h2 h3 h4 hk ⊢;have hmem:l∈L:=List.mem_of_getElem? hl;have hr:=hL.inr l hmem;have hm:=hL.most l hmem;have hm1:=hL.m1;have hnl:=hL.noloop l hmem;unfold iY;rw[Ï hi,È hl];unfold pP
  by_cases hln:l.1=n
  ·have e0:ine l.1 n=false:=by simp[ine,hln]
   rw[Ð e0];have e1:∀(f:Bool→Option ρ) (g:Option ρ),Mh (k:=tI) (v:=.bool) (i:Int) [] f g=g:=fun f g=>rfl;rw[e1,if_neg (by simp[hln])]
   have tn:n.toNat<y.length:=by omega
   have tt:l.2.1.toNat<y.length:=by omega
   have tu:l.2.1.toNat<u.length:=by omega
   rw[Α hn.1 (by omega),j9 tn,Ó (by omega) (by omega),Α hr.2.1 (by omega),j9 tt,Ċ]
   by_cases hge:gv y l.2.1≤gv y n+l.2.2
   ·rw[if_pos (by simpa[ige] using hge),if_pos hge,Ë hi (by omega)];exact hk (y,u,p) ⟨h1,h2,h3,by dsimp only; omega⟩
   ·rw[if_neg (by simpa[ige] using hge),if_neg hge]
    have hset:gv (y.set l.2.1.toNat (gv y n+l.2.2)) n=gv x n:=by
     rw[rC hr.2.1 hn.1 tt,if_neg (fun h=>hnl (hln.trans h)),h3]
    have hself:gv (y.set l.2.1.toNat (gv y n+l.2.2)) l.2.1=gv y n+l.2.2:=by
     rw[rC hr.2.1 hr.2.1 tt,if_pos rfl]
    rw[Α hn.1 (by omega),j9 tn,Ó (by omega) (by omega),Α hr.2.1 (by omega),j9 tt];rw[show(í (List.set y l.2.1.toNat (gv y n+l.2.2)))=((y.length:Nat):Int) by simp[í]];rw[Α hr.2.1 (by omega),j9 (by simpa using tt),hself,Ċ]
    by_cases hlt:gv y n+l.2.2<least
    ·rw[if_pos (by simpa[ilt] using hlt),if_pos hlt]
    ·rw[if_neg (by simpa[ilt] using hlt),if_neg hlt,Α hr.2.1 (by omega),PL tu,Ċ]
     cases hwv:wv u l.2.1 with
     |true =>
      rw[if_neg (by simp),if_pos rfl,Ë hi (by omega)];exact hk (y.set l.2.1.toNat (gv y n+l.2.2),u,p) ⟨by simpa using h1,h2,hset,by dsimp only; omega⟩
     |false =>
      rw[if_pos (by simp),if_neg (by simp),Õ (by simp only[dJ]; omega),Am.iff_true,Α hr.2.1 (by omega),PL tu,Ë hi (by omega)];exact hk (y.set l.2.1.toNat (gv y n+l.2.2),u.set l.2.1.toNat true,p++[l.2.1]) ⟨by simpa using h1,by simpa using h2,hset,by simp only[cM,dJ]; omega⟩
  ·have e0:ine l.1 n=true:=by simp[ine,hln]
   rw[Ú e0,if_pos hln,Ë hi (by omega)];exact hk (y,u,p) ⟨h1,h2,h3,by dsimp only; omega⟩
structure afR (N:Nat) (n least:Int) (L:List Lk) (x:List Int) (q:List Int) (x':List Int) (w':List Bool) (q':List Int):Prop where
 lx:x'.length=N
 lw:w'.length=N
 same:gv x' n=gv x n
 le:∀v:Int,0≤v→v<N→gv x' v≤gv x v
 link:∀v m,(n,v,m)∈L→gv x' v≤gv x n+m
 chg:∀v:Int,0≤v→v<N→gv x' v=gv x v∨(v∈q'∧gv x' v<gv x v∧∃m,(n,v,m)∈L∧gv x' v=gv x n+m∧least≤gv x' v)
 new:∃l,q'=q++l∧∀v∈l,(0≤v∧v<N)∧gv x' v<gv x v
 nodup:q'.Nodup
 waits:∀v:Int,0≤v→v<N→(wv w' v=true↔v∈q')
def kr {N:Nat} {n least:Int} (hn:0≤n∧n<N):∀{L:List Lk},InR L N→(∀l∈L,l.1≠l.2.1)→∀{x:List Int} {w:List Bool} {q:List Int},x.length=N→w.length=N→q.Nodup→(∀v:Int,0≤v→v<N→(wv w v=true↔v∈q)) →
 ∀{x':List Int} {w':List Bool} {q':List Int},pP n least L x w q=(true,x',w',q')→afR N n least L x q x' w' q'
 |[],_,_,x,w,q,hx,hw,hq,hwq,x',w',q',h=>by
  cases h;exact⟨hx,hw,rfl,fun _ _ _=>dK _,fun _ _ h=>(by cases h),fun _ _ _=>.inl rfl,⟨[],by simp,fun _ h=>by cases h⟩,hq,hwq⟩
 |l::t,hL,hnl,x,w,q,hx,hw,hq,hwq,x',w',q',h=>by
  have hLt:InR t N:=fun l hl=>hL l (by simp[hl]);have hnt:∀l∈t,l.1≠l.2.1:=fun l hl=>hnl l (by simp[hl]);have hr:=hL l (by simp);have hl0:=hnl l (by simp);unfold pP at h
  split at h
  ·rename_i hne;have a:=kr hn hLt hnt hx hw hq hwq h
   exact⟨a.lx,a.lw,a.same,a.le,fun v m hm=>by
    rcases cO.1 hm with rfl|hm
    ·exact(hne rfl).elim
    ·exact a.link v m hm,fun v h0 h1=>(a.chg v h0 h1).imp id fun⟨g1,g2,m,g3,g4⟩=>⟨g1,g2,m,by simp[g3],g4⟩,a.new,a.nodup,a.waits⟩
  ·rename_i hne
   have hln:l.1=n:=by simpa using hne
   split at h
   ·rename_i hle;have a:=kr hn hLt hnt hx hw hq hwq h
    exact⟨a.lx,a.lw,a.same,a.le,fun v m hm=>by
     rcases cO.1 hm with rfl|hm
     ·have:=a.le v hr.2.1 hr.2.2; simp only at hle; omega
     ·exact a.link v m hm,fun v h0 h1=>(a.chg v h0 h1).imp id fun⟨g1,g2,m,g3,g4⟩=>⟨g1,g2,m,by simp[g3],g4⟩,a.new,a.nodup,a.waits⟩
   ·rename_i hgt
    split at h
    ·cases h
    ·rename_i hls
     have tt:l.2.1.toNat<x.length:=by omega
     have tw:l.2.1.toNat<w.length:=by omega
     have hy:(x.set l.2.1.toNat (gv x n+l.2.2)).length=N:=by simpa using hx
     have hyn:gv (x.set l.2.1.toNat (gv x n+l.2.2)) n=gv x n:=by
      rw[rC hr.2.1 hn.1 tt,if_neg (fun h=>hl0 (hln.trans h))]
     have hyv:∀v,0≤v→gv (x.set l.2.1.toNat (gv x n+l.2.2)) v=if v=l.2.1 then gv x n+l.2.2 else gv x v:=fun v h0=>rC hr.2.1 h0 tt _
     have hlm:(n,l.2.1,l.2.2)∈l::t:=by rw[←hln]; simp
     -- what both ways have in common
     have fin:∀{w1:List Bool} {q1:List Int},afR N n least t (x.set l.2.1.toNat (gv x n+l.2.2)) q1 x' w' q'→l.2.1∈q1→(∃l',q1=q++l'∧∀v∈l',v=l.2.1)→afR N n least (l::t) x q x' w' q':=by
      intro w1 q1 a hmem hq1;obtain⟨new,hnew,hnv⟩:=a.new;obtain⟨l',hl',hlv⟩:=hq1
      have hto:gv x' l.2.1≤gv x n+l.2.2:=by
       have:=a.le l.2.1 hr.2.1 hr.2.2;rw[hyv _ hr.2.1,if_pos rfl] at this;exact this
      refine⟨a.lx,a.lw,a.same.trans hyn,fun v h0 h1=>?_,fun v m hm=>?_,fun v h0 h1=>?_,⟨l'++new,by rw[hnew,hl',cR],fun v hv=>?_⟩,a.nodup,a.waits⟩
      ·have:=a.le v h0 h1;rw[hyv v h0] at this
       split at this
       ·rename_i e; subst e; omega
       ·exact this
      ·rcases cO.1 hm with rfl|hm
       ·exact hto
       ·have:=a.link v m hm
        rwa [hyn] at this
      ·rcases a.chg v h0 h1 with g|⟨g1,g2,m,g3,g4,g5⟩
       ·rw[hyv v h0] at g
        split at g
        ·rename_i e;subst e;exact .inr ⟨by rw[hnew]; exact dD _ hmem,by omega,l.2.2,hlm,g,by omega⟩
        ·exact .inl g
       ·rw[hyv v h0] at g2;rw[hyn] at g4;refine .inr ⟨g1,?_,m,by simp[g3],g4,g5⟩
        split at g2
        ·rename_i e; subst e; omega
        ·exact g2
      ·rcases cN.1 hv with hv|hv
       ·rw[hlv v hv]; exact⟨hr.2,by omega⟩
       ·obtain⟨g1,g2⟩:=hnv v hv;rw[hyv v g1.1] at g2;refine⟨g1,?_⟩
        split at g2
        ·rename_i e; subst e; omega
        ·exact g2
     split at h
     ·rename_i hwt;exact fin (w1:=w) (kr hn hLt hnt hy hw hq hwq h) ((hwq _ hr.2.1 hr.2.2).1 hwt) ⟨[],by simp,fun _ h=>by cases h⟩
     ·rename_i hwt;have hnq:l.2.1∉q:=fun hc=>hwt ((hwq _ hr.2.1 hr.2.2).2 hc);refine fin (w1:=w.set l.2.1.toNat true) (kr hn hLt hnt hy (by simpa using hw) ?_ ?_ h) (by simp) ⟨[l.2.1],rfl,fun v hv=>by simpa using hv⟩
      ·rw[List.nodup_append];exact⟨hq,by simp,fun a ha b hb=>by simp at hb; subst hb; exact fun e=>hnq (e▸ha)⟩
      ·intro v h0 h1;rw[XF hr.2.1 h0 tw]
       by_cases hv:v=l.2.1
       ·simp[hv]
       ·simp only[hv,if_false,cN,cQ,or_false];exact hwq v h0 h1
def nI {n least:Int}:∀{L:List Lk},(∀l∈L,l.1≠l.2.1)→(∀l∈L,0≤l.2.1)→0≤n→∀{x:List Int} {w:List Bool} {q:List Int} {r},pP n least L x w q=(false,r)→∃v m,(n,v,m)∈L∧gv x n+m<least
 |[],_,_,_,x,w,q,r,h=>by cases h
 |l::t,hnl,h0,hn,x,w,q,r,h=>by
  have hnt:∀l∈t,l.1≠l.2.1:=fun l hl=>hnl l (by simp[hl]);have h0t:∀l∈t,0≤l.2.1:=fun l hl=>h0 l (by simp[hl]);have up:(∃v m,(n,v,m)∈t∧gv x n+m<least)→∃v m,(n,v,m)∈l::t∧gv x n+m<least:=fun⟨v,m,g1,g2⟩=>⟨v,m,by simp[g1],g2⟩;unfold pP at h
  split at h
  ·exact up (nI hnt h0t hn h)
  ·rename_i hne
   have hln:l.1=n:=by simpa using hne
   split at h
   ·exact up (nI hnt h0t hn h)
   ·split at h
    ·rename_i hlt;exact⟨l.2.1,l.2.2,by rw[←hln]; simp,hlt⟩
    ·have hyn:gv (x.set l.2.1.toNat (gv x n+l.2.2)) n=gv x n:=by
      unfold gv;rw[List.getElem?_set];have h1:=hnl l (by simp);have h2:=h0 l (by simp)
      have:¬l.2.1.toNat=n.toNat:=by omega
      simp[this]
     split at h
     ·have:=nI hnt h0t hn h;rw[hyn] at this;exact up this
     ·have:=nI hnt h0t hn h;rw[hyn] at this;exact up this
def Yo {ρ:Type} {L:List Lk} {N:Nat} {M:Int} (hL:iz L N M) {n least:Int} (hn:0≤n∧n<N) {x:List Int} {w:List Bool} {t rest:List Int} (hx:x.length=N) (hw:w.length=N) (ht:t.length=N) (hq:rest.length≤1000000)
 (hb : -2305843009213693952≤gv x n∧gv x n≤2305843009213693952) (htn:0≤gv t n∧gv t n≤1000000) (kn:List Int→List Bool→List Int→List Int→Option ρ) (k0:(Val (.pair .bool (.pair (.slice tI) (.pair (.slice .bool) (.pair (.slice tI) (.slice tI))))))→Option ρ) :
 ī [] least (N:Int) L x w t (n::rest) kn k0 =
  if (N:Int)+1<gv t n+1 then k0 (false,x,w.set n.toNat false,t.set n.toNat (gv t n+1),rest) else
  match pP n least L x (w.set n.toNat false) rest with
  |(true,x',w',q')=>kn x' w' (t.set n.toNat (gv t n+1)) q'
  |(false,x',w',q')=>k0 (false,x',w',t.set n.toNat (gv t n+1),q'):=by
 have hN:=hL.nodes
 have tn:n.toNat<x.length:=by omega
 have tw:n.toNat<w.length:=by omega
 have tt:n.toNat<t.length:=by omega
 unfold ī
 have e0:ieq (Ù (n::rest)) 0=false:=by
  rw[Ô];simp only[ieq,cX,beq_eq_false_iff_ne,ne_eq];omega
 have e1:ilt (0:Int) (í (n::rest))=true:=by simp[ilt,í]
 have e2:ile (1:Int) (í (n::rest))=true:=by simp[ile,í]; omega
 have e3:decide (1+(List.length (n::rest)-1)=List.length (n::rest))=true:=by simp; omega
 rw[Ð e0,ý e1];rw[show Ĺ (n::rest) 0=fun(f:Int→Option ρ)=>f n from rfl]
 try dsimp only
 rw[ý e2,ý e3,Α hn.1 (by omega),PL tw,Α hn.1 (by omega),j9 tt,Ó (by omega) (by omega),Α hn.1 (by omega),j9 tt];rw[show(í (List.set t n.toNat (gv t n+1)))=((t.length:Nat):Int) by simp[í]];rw[Α hn.1 (by omega),j9 (by simpa using tt),rC hn.1 hn.1 tt,if_pos rfl,Ó (by omega) (by omega),Ċ];rw[show List.drop 1 (n::rest)=rest from rfl]
 by_cases hlt:(N:Int)+1<gv t n+1
 ·rw[if_pos (by simpa[igt] using hlt),if_pos hlt]
 ·rw[if_neg (by simpa[igt] using hlt),if_neg hlt];rw[aeZ hL hn hx (w:=w.set n.toNat false) (by simpa using hw) hq hb];generalize pP n least L x (w.set n.toNat false) rest=r;obtain⟨b,x',w',q'⟩:=r
  cases b<;>rfl
def abN {ρ:Type} {L:List Lk} {N:Int} {least:Int} {x:List Int} {w:List Bool} {t:List Int} (kn:List Int→List Bool→List Int→List Int→Option ρ) (k0:(Val (.pair .bool (.pair (.slice tI) (.pair (.slice .bool) (.pair (.slice tI) (.slice tI))))))→Option ρ) :
 ī [] least N L x w t [] kn k0=k0 (true,x,w,t,[]):=by
 unfold ī
 have e0:ieq (Ù ([]:List Int)) 0=true:=by rw[Ô]; rfl
 rw[Ú e0]
def Re (N:Nat) (t:List Int):Nat:=(t.map fun a=>((N:Int)+2-a).toNat).sum
def YB (N:Nat):∀(t:List Int) (i:Nat) (a b:Int),t[i]?=some a→a<b→a<(N:Int)+2→Re N (t.set i b)<Re N t
 |a0::t,0,a,b,h,h1,h2=>by
  simp at h; subst h;simp only[Re,List.set_cons_zero,eM,List.sum_cons];omega
 |a0::t,i+1,a,b,h,h1,h2=>by
  have:=YB N t i a b (by simpa using h) h1 h2;simp only[Re] at this;simp only[Re,List.set_cons_succ,eM,List.sum_cons];omega
def Uy {N:Nat} {t:List Int} {n:Int} (hn:n.toNat<t.length) (h:gv t n≤(N:Int)+1):Re N (t.set n.toNat (gv t n+1))<Re N t :=
 YB N t n.toNat (gv t n) _ (YJ hn) (by omega) (by omega)
structure aaP (L:List Lk) (S:Int→Prop) (N:Nat) (M:Int) (k:Nat) (A B:List Int) (x:List Int) (w:List Bool) (t q:List Int):Prop where
 q_eq:q=A++B
 lx:x.length=N
 lw:w.length=N
 lt:t.length=N
 nodup:q.Nodup
 rng:∀v∈q,0≤v∧v<N
 waits:∀v:Int,0≤v→v<N→(wv w v=true↔v∈q)
 t0:∀v:Int,0≤v→v<N→0≤gv t v∧gv t v≤(k:Int)+1
 tA:∀v∈A,gv t v≤k
 low:∀vs v d,Wl L S vs v d→vs.length≤k→gv x v≤d
 nxt:∀vs u d,Wl L S vs u d→vs.length≤k→u∉A→∀v m,(u,v,m)∈L→gv x v≤d+m
 rel:∀u:Int,0≤u→u<N→u∉q→gv x u≠Š→∀v m,(u,v,m)∈L→gv x v≤gv x u+m
 att:∀v:Int,0≤v→v<N→gv x v≠Š→∃vs,Wl L S vs v (gv x v)
 bd:∀v:Int,0≤v→v<N→gv x v=Š∨gv x v≤((k:Int)+1)*M
 bA:∀v∈A,gv x v≤(k:Int)*M
 fin:∀v∈q,gv x v<Š
 kN:k+1≤N
 last:k+1=N→B=[]
section
variable {L:List Lk} {S:Int→Prop} {N:Nat} {M:Int} {p:Int→Int} {k:Nat} {A B x:List Int} {w:List Bool} {t q:List Int}
def Ik {a b:Nat} {M:Int} (h:a≤b) (hM:0≤M):(a:Int)*M≤(b:Int)*M:=ft (by omega) hM
def Wl.lt_free (hL:iz L N M) (hNM:N*M<Š) {vs:List Int} {v d:Int} (hw:Wl L S vs v d) (h:vs.length≤N):d<Š:=by
 have h1:=hw.high fun l hl=>(hL.most l hl).2;have h2:=Ik h hL.m0;omega
def aaP.next (hL:iz L N M) (hNM:N*M<Š) (hS:∀v,S v→0≤v∧v<N) (h:aaP L S N M k [] B x w t q) (hB:B≠[]):aaP L S N M (k+1) B [] x w t q:=by
 have hM:=hL.m0
 have hq:q=B:=by simpa using h.q_eq
 have hk:k+1≠N:=fun e=>hB (h.last e);have hkN:=h.kN
 have low':∀vs v d,Wl L S vs v d→vs.length≤k+1→gv x v≤d:=by
  intro vs v d hw hl
  cases hw with
  |nil hs=>exact h.low [] v 0 (.nil hs) (by simp)
  | @step vs u _ m d hw hlk=>exact h.nxt vs u d hw (by simpa using hl) (by simp) v m hlk
 refine⟨by simp[hq],h.lx,h.lw,h.lt,h.nodup,h.rng,h.waits,fun v h0 h1=>⟨(h.t0 v h0 h1).1,by have:=(h.t0 v h0 h1).2; push_cast; omega⟩,fun v hv=>?_,low',fun vs u d hw hl hu v m hlk=>?_,h.rel,h.att,fun v h0 h1=>?_,fun v hv=>?_,h.fin,by omega,fun _=>rfl⟩
 ·have:=h.rng v (by rw[hq]; exact hv);have:=(h.t0 v this.1 this.2).2;push_cast; omega
 ·have h1:=low' vs u d hw hl;have h2:=hw.lt_free hL hNM (by omega);have h3:=(hw.range hL.inr hS).1;have:=h.rel u h3.1 h3.2 (by rw[hq]; exact hu) (by omega) v m hlk;omega
 ·rcases h.bd v h0 h1 with h2|h2
  ·exact .inl h2
  ·refine .inr ?_;have:=Ik (show k+1≤k+1+1 by omega) hM;push_cast at this ⊢;omega
 ·have h1:=h.rng v (by rw[hq]; exact hv);have h2:=h.fin v (by rw[hq]; exact hv);rcases h.bd v h1.1 h1.2 with h3|h3
  ·omega
  ·push_cast; exact h3
def aaP.step {n:Int} {A':List Int} {least:Int} {x':List Int} {w':List Bool} {q':List Int} (hL:iz L N M) (hNM:N*M<Š) (hp:Pot L p) (hS:∀v,S v→0≤v∧v<N) (h:aaP L S N M k (n::A') B x w t q)
 (ha:afR N n least L x (A'++B) x' w' q'):∃B',aaP L S N M k A' B' x' w' (t.set n.toNat (gv t n+1)) q':=by
 have hM:=hL.m0
 have hq:q=n::(A'++B):=by simpa using h.q_eq
 have hkN:=h.kN;have hnr:=h.rng n (by rw[hq]; simp);have hnf:=h.fin n (by rw[hq]; simp)
 have hnd:n∉A'++B:=by have:=h.nodup; rw[hq,eW] at this; exact this.1
 have htn:n.toNat<t.length:=by have:=h.lt; omega
 have tset:∀v,0≤v→gv (t.set n.toNat (gv t n+1)) v=if v=n then gv t n+1 else gv t v:=fun v h0=>rC hnr.1 h0 htn _
 have hkM:((k:Int)+1)*M<Š:=by
  have:=Ik hkN hM;push_cast at this;omega
 have xle:∀v:Int,0≤v→v<N→gv x v≤Š:=fun v h0 h1=>by rcases h.bd v h0 h1 with h2|h2<;>omega
 obtain⟨l,hl,hlv⟩:=ha.new
 have att':∀v:Int,0≤v→v<N→gv x' v≠Š→∃vs,Wl L S vs v (gv x' v):=by
  intro v h0 h1 hne;rcases ha.chg v h0 h1 with g|⟨_,_,m,g3,g4,_⟩
  ·rw[g] at hne ⊢; exact h.att v h0 h1 hne
  ·obtain⟨vs,hw⟩:=h.att n hnr.1 hnr.2 (by omega);rw[g4]; exact⟨_,hw.step g3⟩
 refine⟨B++l,by rw[hl,cR],ha.lx,ha.lw,by rw[ff]; exact h.lt,ha.nodup,fun v hv=>?_,ha.waits,fun v h0 h1=>?_,fun v hv=>?_,fun vs v d hw hlen=>?_,fun vs u d hw hlen hu v m hlk=>?_,
  fun u h0 h1 hu hf v m hlk=>?_,att',fun v h0 h1=>?_,fun v hv=>?_,fun v hv=>?_,hkN,fun hk=>?_⟩
 ·rw[hl] at hv;rcases cN.1 hv with hv|hv
  ·exact h.rng v (by rw[hq]; simp only[cO]; exact .inr hv)
  ·exact(hlv v hv).1
 ·rw[tset v h0];have h2:=h.t0 v h0 h1
  split
  ·have h3:=h.tA n (by simp);have h4:=h.t0 n hnr.1 hnr.2;omega
  ·exact h2
 ·have h1:=h.rng v (by rw[hq]; simp[hv]);rw[tset v h1.1,if_neg (fun e=>hnd (by rw[←e]; simp[hv]))];exact h.tA v (by simp[hv])
 ·have h1:=h.low vs v d hw hlen;have h2:=(hw.range hL.inr hS).1;have:=ha.le v h2.1 h2.2;omega
 ·have hvr:=(hL.inr _ hlk).2
  by_cases hun:u=n
  ·subst hun;have h1:=ha.link v m hlk;have h2:=h.low vs u d hw hlen;omega
  ·have h1:=h.nxt vs u d hw hlen (by simp[hun,hu]) v m hlk;have:=ha.le v hvr.1 hvr.2;omega
 ·have hvr:=(hL.inr _ hlk).2
  have heq:gv x' u=gv x u:=by
   rcases ha.chg u h0 h1 with g|⟨g,_⟩
   ·exact g
   ·exact(hu g).elim
  by_cases hun:u=n
  ·subst hun;have h1:=ha.link v m hlk;omega
  ·have hur:u∉q:=by
    rw[hq];intro hc;rcases cO.1 hc with e|hc
    ·exact hun e
    ·exact hu (by rw[hl]; exact dD _ hc)
   have h2:=h.rel u h0 h1 hur (by rw[←heq]; exact hf) v m hlk;have:=ha.le v hvr.1 hvr.2;omega
 ·rcases ha.chg v h0 h1 with g|⟨_,_,m,g3,g4,_⟩
  ·rw[g]; exact h.bd v h0 h1
  ·have h2:=h.bA n (by simp);have h3:=(hL.most _ g3).2;simp only at h3;refine .inr ?_;rw[g4,gh,gA];omega
 ·have h1:=h.rng v (by rw[hq]; simp[hv]);have h2:=h.bA v (by simp[hv]);have:=ha.le v h1.1 h1.2;omega
 ·rw[hl] at hv;rcases cN.1 hv with hv|hv
  ·have h1:=h.rng v (by rw[hq]; simp only[cO]; exact .inr hv);have h2:=h.fin v (by rw[hq]; simp only[cO]; exact .inr hv);have:=ha.le v h1.1 h1.2;omega
  ·obtain⟨g1,g2⟩:=hlv v hv;have:=xle v g1.1 g1.2;omega
 ·rw[h.last hk]
  cases l with
  |nil=>rfl
  |cons v l =>
   exfalso;obtain⟨g1,g2⟩:=hlv v (by simp);have:=xle v g1.1 g1.2;obtain⟨vs,hw⟩:=att' v g1.1 g1.2 (by omega);obtain⟨vs',d',k1,k2,k3⟩:=hw.simple hp;have k4:=k1.short hL.inr hS k3;have:=h.low vs' v d' k1 (by omega);omega
def aaP.done (hL:iz L N M) (hNM:N*M<Š) (hp:Pot L p) (hS:∀v,S v→0≤v∧v<N) (h:aaP L S N M k A B x w t []):aaR L S N (gv x):=by
 have hkN:=h.kN;have hM:=hL.m0
 have hkM:((k:Int)+1)*M<Š:=by
  have:=Ik hkN hM;push_cast at this;omega
 have key:∀vs v d,Wl L S vs v d→vs.length+1≤N→gv x v≤d:=by
  intro vs v d hw
  induction hw with
  |nil hs=>intro _; exact h.low [] _ 0 (.nil hs) (by simp)
  | @step vs u v m d hw hlk ih =>
   intro hlen;simp only[cX] at hlen;have h1:=ih (by omega);have h2:=hw.lt_free hL hNM (by omega);have h3:=(hw.range hL.inr hS).1;have:=h.rel u h3.1 h3.2 (by simp) (by omega) v m hlk;omega
 refine⟨h.att,fun v vs d hw=>?_,fun v h0 h1=>?_⟩
 ·obtain⟨vs',d',k1,k2,k3⟩:=hw.simple hp;have:=key vs' v d' k1 (k1.short hL.inr hS k3);omega
 ·rcases h.bd v h0 h1 with h2|h2<;>omega
def Sq {ρ:Type} {r:Option ρ} (hL:iz L N M) (hNM:N*M<Š) (hp:Pot L p) (hS:∀v,S v→0≤v∧v<N) (k0:(Val (.pair .bool (.pair (.slice tI) (.pair (.slice .bool) (.pair (.slice tI) (.slice tI))))))→Option ρ)
 (hK:∀x w t q,x.length=N→aaR L S N (gv x)→k0 (true,x,w,t,q)=r) (h:aaP L S N M k A B x w t q) :
 Ê (fun(v64:(Val (.pair (.slice tI) (.pair (.slice .bool) (.pair (.slice tI) (.slice tI)))))) kk69=>ī [] (Ij L) (N:Int) L v64.1 v64.2.1 v64.2.2.1 v64.2.2.2 (fun u65 u66 u67 u68=>kk69 (u65,u66,u67,u68)) k0) (x,w,t,q)=r:=by
 refine ė (fun s:List Int×List Bool×List Int×List Int=>∃k A B,aaP L S N M k A B s.1 s.2.1 s.2.2.1 s.2.2.2) (fun s=>Re N s.2.2.1) ?_ ⟨k,A,B,h⟩;rintro⟨x,w,t,q⟩ ⟨k,A,B,h⟩;dsimp only at h ⊢;have hN:=hL.nodes
 cases q with
 |nil=>exact .inl fun kn=>by rw[abN]; exact hK x w t [] h.lx (h.done hL hNM hp hS)
 |cons n rest =>
  -- the phase in which the first one is
  have hph:∃k A' B,aaP L S N M k (n::A') B x w t (n::rest):=by
   cases A with
   |nil =>
    have hB:B=n::rest:=by simpa using h.q_eq.symm
    subst hB;exact⟨k+1,rest,[],h.next hL hNM hS (by simp)⟩
   |cons a A' =>
    have:=h.q_eq;simp only[eR,List.cons.injEq] at this;obtain⟨rfl,_⟩:=this;exact⟨k,A',B,h⟩
  clear h k A B;obtain⟨k,A',B,h⟩:=hph
  have hrest:rest=A'++B:=by have:=h.q_eq; simpa using this
  have hnr:=h.rng n (by simp);have hnf:=h.fin n (by simp);have hkN:=h.kN;have h1:=h.tA n (by simp);have h2:=h.t0 n hnr.1 hnr.2;obtain⟨vs,hw⟩:=h.att n hnr.1 hnr.2 (by omega);have hlow:=hw.low' hp
  have hneg : -(400*4503599627370496)≤Ij L:=by
   have:∀L':List Lk,(∀l∈L',-M≤l.2.2)→-((L'.length:Int)*M)≤Ij L':=by
    intro L'
    induction L' with
    |nil=>intro _; simp[Ij,Ho]
    |cons l t ih =>
     intro hh;have i1:=ih fun l hl=>hh l (by simp[hl]);have i2:=hh l (by simp);have i3:=hL.m0;unfold Ij at i1 ⊢;simp only[Ho,if_true,List.length_cons,Int.natCast_succ,Int.add_mul,Int.one_mul];omega
   have h3:=this L fun l hl=>(hL.most l hl).1;have h4:(L.length:Int)*M≤400*4503599627370496:=fT (by have:=hL.len; omega) hL.m1 hL.m0 (by omega);omega
  have hrl:rest.length≤1000000:=by
   have:=Ya N (n::rest) h.nodup h.rng;simp only[cX] at this;omega
  refine .inr ?_
  have hw':(w.set n.toNat false).length=N:=by rw[ff]; exact h.lw
  cases hr:pP n (Ij L) L x (w.set n.toNat false) rest with
  |mk b r' =>
  obtain⟨x',w',q'⟩:=r'
  cases b with
  |false =>
   exfalso;obtain⟨v,m,g1,g2⟩:=nI hL.noloop (fun l hl=>(hL.inr l hl).2.1) hnr.1 hr;have:=(hw.step g1).low' hp;omega
  |true =>
   have hnd:=h.nodup;rw[eW] at hnd
   have ha:=kr hnr hL.inr hL.noloop h.lx hw' hnd.2 (fun v h0 h1=>by
    rw[XF hnr.1 h0 (by have:=h.lw; omega)]
    by_cases hv:v=n
    ·subst hv; simp[hnd.1]
    ·rw[if_neg hv,h.waits v h0 h1]
     simp[hv]) hr
   rw[hrest] at ha;obtain⟨B',hB'⟩:=h.step hL hNM hp hS ha;refine⟨(x',w',t.set n.toNat (gv t n+1),q'),⟨k,A',B',hB'⟩,Uy (by have:=h.lt; omega) (by omega),fun kn=>?_⟩;have hF:Š=1152921504606846976:=rfl
   rw[Yo hL hnr h.lx h.lw h.lt hrl (by constructor<;>omega) (by constructor<;>omega),if_neg (by omega),hr]
end
def Jh (f:Lk→Bool):∀(L L':List Lk),Ho f (L++L')=Ho f L+Ho f L'
 |[],L'=>by simp[Ho]
 |l::t,L'=>by
  simp only[eR,Ho,Jh f t L'];omega
def Tg {L:List Lk} {i:Nat} {l:Lk} (h:L[i]?=some l):Ij (L.take (i+1))=Ij (L.take i)+min l.2.2 0:=by
 rw[take_succ h,Ij,Ij,Jh];simp[Ho]
def imin0 (e:Int):YH e 0=min e 0:=by
 unfold YH
 split<;>omega
def VW {L:List Lk} {M:Int} (h:∀l∈L,-M≤l.2.2) (hM:0≤M) : -((L.length:Int)*M)≤Ij L:=by
 induction L with
 |nil=>simp[Ij,Ho]
 |cons l t ih =>
  have i1:=ih fun l hl=>h l (by simp[hl]);have i2:=h l (by simp);unfold Ij at i1 ⊢;simp only[Ho,if_true,List.length_cons,Int.natCast_succ,Int.add_mul,Int.one_mul];omega
def ag1 (L:List Lk):Ij L≤0:=uu _ L
section
variable {ρ:Type} {L:List Lk} {N:Nat} {M:Int}
def YD (hL:iz L N M) (k0:Int→Option ρ):Ê (fun(v75:Val Ã) kk78=>gY L (Ù L) v75.1 v75.2 (fun u76 u77=>kk78 (u76,u77)) k0) ((0:Int),(0:Int))=k0 (Ij L):=by
 refine ė (fun x:Int×Int=>∃i:Nat,i≤L.length∧x=(Ij (L.take i),(i:Int))) (fun x=>L.length-x.2.toNat) ?_ ⟨0,by omega,rfl⟩;rintro x ⟨i,hi,rfl⟩;have hlen:=hL.len;rcases dg i L.length with h|h
 ·have hl:L[i]?=some L[i]:=cG h;refine .inr ⟨(Ij (L.take (i+1)),(i:Int)+1),⟨i+1,h,by simp⟩,by simp; omega,fun kn=>?_⟩
  try dsimp only
  unfold gY
  have hb:∀j,j≤L.length→-(400*4503599627370496)≤Ij (L.take j):=by
   intro j hj;have h1:=VW (L:=L.take j) (fun l hl=>(hL.most l (fQ hl)).1) hL.m0;have h2:((L.take j).length:Int)*M≤400*4503599627370496:=fT (by rw[dc]; omega) hL.m1 hL.m0 (by omega);omega
  have h1:=hb i hi;have h2:=hb (i+1) h;have h3:=ag1 (L.take i);rw[Tg hl] at h2;rw[Ï h,È hl,imin0,Ó (by omega) (by omega),Ë h (by omega),Tg hl]
 ·refine .inl fun kn=>?_
  have:i=L.length:=by omega
  subst this
  try dsimp only
  unfold gY;rw[Ý,List.take_length]
def abm {x:List Int} (hx:x.length=N) (hN:N≤1000) {r:Option ρ} (k0:(Val (.pair (.slice .bool) (.slice tI)))→Option ρ)
 (hK:∀(w:List Bool) (q:List Int),w.length=N→q.Nodup→(∀v∈q,0≤v∧v<N)→(∀v:Int,0≤v→v<N→(wv w v=true↔v∈q))→(∀v:Int,0≤v→v<N→(v∈q↔gv x v≠Š))→k0 (w,q)=r) :
 Ê (fun(v70:(Val (.pair tI (.pair (.slice .bool) (.slice tI))))) kk74=>Ř (N:Int) x v70.1 v70.2.1 v70.2.2 (fun u71 u72 u73=>kk74 (u71,u72,u73)) k0) ((0:Int),(List.replicate N false),([]:List Int))=r:=by
 refine ė (fun s:Int×List Bool×List Int=>∃i:Nat,i≤N∧s.1=i∧s.2.1.length=N∧s.2.2.Nodup∧s.2.2.length≤i∧(∀v∈s.2.2,0≤v∧v<i)∧(∀v:Int,0≤v→v<N→(wv s.2.1 v=true↔v∈s.2.2))∧(∀v:Int,0≤v→v<i→(v∈s.2.2↔gv x v≠Š))) (fun s=>N-s.1.toNat) ?_
  ⟨0,by omega,rfl,by simp,by simp,by simp,by simp,fun v h0 h1=>?_,fun v h0 h1=>by omega⟩
 ·rintro⟨s,w,q⟩ ⟨i,hi,h1,h2,h3,h4,h5,h6,h7⟩;simp only at h1 h2 h3 h4 h5 h6 h7;subst h1;rcases dg i N with h|h
  ·refine .inr ?_
   have hix:i<x.length:=by omega
   have hiw:i<w.length:=by omega
   have hnq:((i:Int))∉q:=fun hc=>by have:=(h5 _ hc).2; omega
   by_cases hf:gv x i=Š
   ·refine⟨((i:Int)+1,w,q),⟨i+1,h,by simp,h2,h3,by simp only; omega,fun v hv=>⟨(h5 v hv).1,by have:=(h5 v hv).2; push_cast; omega⟩,h6,fun v h0 h1=>?_⟩,by simp; omega,fun kn=>?_⟩
    ·by_cases hv:v=i
     ·subst hv; simp[hf,hnq]
     ·exact h7 v h0 (by push_cast at h1; omega)
    ·try dsimp only
     unfold Ř
     have e:ilt (i:Int) (N:Int)=true:=by simp[ilt,h]
     rw[Ú e,Ĭ hix,j9 (by simpa using hix)]
     have e2:ine (gv x i) 1152921504606846976=false:=by simp[ine,hf]
     rw[Ð e2,Ë h (by omega)]
   ·refine⟨((i:Int)+1,w.set i true,q++[(i:Int)]),⟨i+1,h,by simp,by simpa using h2,?_,by simp; omega,fun v hv=>?_,fun v h0 h1=>?_,fun v h0 h1=>?_⟩,by simp; omega,fun kn=>?_⟩
    ·rw[List.nodup_append];exact⟨h3,by simp,fun a ha b hb=>by simp at hb; subst hb; exact fun e=>hnq (e▸ha)⟩
    ·rcases cN.1 hv with hv|hv
     ·exact⟨(h5 v hv).1,by have:=(h5 v hv).2; push_cast; omega⟩
     ·simp at hv; subst hv; push_cast; omega
    ·have:=XF (w:=w) (u:=(i:Int)) (by omega) h0 (by simpa using hiw) true;rw[cW] at this;show wv (w.set i true) v=true↔v∈q++[(i:Int)];rw[this]
     by_cases hv:v=i
     ·simp[hv]
     ·simp only[hv,if_false,cN,cQ,or_false];exact h6 v h0 h1
    ·show v∈q++[(i:Int)]↔_
     by_cases hv:v=i
     ·subst hv; simp[hf]
     ·simp only[cN,cQ,hv,or_false];exact h7 v h0 (by push_cast at h1; omega)
    ·try dsimp only
     unfold Ř
     have e:ilt (i:Int) (N:Int)=true:=by simp[ilt,h]
     rw[Ú e,Ĭ hix,j9 (by simpa using hix)]
     have e2:ine (gv x i) 1152921504606846976=true:=by simp[ine,hf]
     rw[Ú e2,Õ (by simp only[dJ]; omega),Am.iff_true,Ĭ hiw,PL (by simpa using hiw),Ë h (by omega),cW]
  ·refine .inl fun kn=>?_
   have:i=N:=by omega
   subst this
   try dsimp only
   unfold Ř
   have e:ilt (i:Int) (i:Int)=false:=by simp[ilt]
   rw[Ð e];exact hK w q h2 h3 h5 h6 h7
 ·have:wv (List.replicate N false) v=false:=by
   unfold wv;rw[List.getElem?_replicate]
   split<;>rfl
  simp[this]
def NY (hL:iz L N M) (hN:1≤N) {S:Int→Bool} (hS:∀v,S v=true→0≤v∧v<N) {w:List Bool} {q:List Int} (hw:w.length=N) (hq:q.Nodup) (hr:∀v∈q,0≤v∧v<N) (hwq:∀v:Int,0≤v→v<N→(wv w v=true↔v∈q)) (hqs:∀v:Int,0≤v→v<N→(v∈q↔gv (uj S N) v≠Š)) :
 aaP L (fun v=>S v=true) N M 0 q [] (uj S N) w (List.replicate N 0) q:=by
 have ht:∀v:Int,0≤v→v<N→gv (List.replicate N (0:Int)) v=0:=by
  intro v h0 h1;unfold gv;rw[List.getElem?_replicate]
  split<;>rfl
 have hg:∀v:Int,0≤v→v<N→(v∈q↔S v=true):=by
  intro v h0 h1;rw[hqs v h0 h1,iK S h0 h1]
  cases S v<;>simp[Š]
 have hM:=hL.m0;refine⟨by simp,č S N,hw,by simp,hq,hr,hwq,fun v h0 h1=>?_,fun v hv=>?_,fun vs v d hw hl=>?_,fun vs u d hw hl hu v m hlk=>?_,fun u h0 h1 hu hf v m hlk=>?_,fun v h0 h1 hf=>?_,fun v h0 h1=>?_,fun v hv=>?_,fun v hv=>?_,by omega,fun _=>rfl⟩
 ·rw[ht v h0 h1]; omega
 ·have:=hr v hv;rw[ht v this.1 this.2]; omega
 ·cases hw with
  |nil hs =>
   have:=hS v hs;rw[iK S this.1 this.2,if_pos hs]; omega
  |step=>simp at hl
 ·cases hw with
  |nil hs =>
   have:=hS u hs;exact(hu ((hg u this.1 this.2).2 hs)).elim
  |step=>simp at hl
 ·rw[iK S h0 h1] at hf;have:=mt (hg u h0 h1).2 hu;rw[if_neg this] at hf;exact(hf rfl).elim
 ·rw[iK S h0 h1] at hf ⊢
  split at hf
  ·rename_i hs;rw[if_pos hs]; exact⟨[],.nil hs⟩
  ·exact(hf rfl).elim
 ·rw[iK S h0 h1]
  split
  ·exact .inr (by simp[hM])
  ·exact .inl rfl
 ·have h1:=hr v hv;rw[iK S h1.1 h1.2,if_pos ((hg v h1.1 h1.2).1 hv)]; simp
 ·have h1:=hr v hv;rw[iK S h1.1 h1.2,if_pos ((hg v h1.1 h1.2).1 hv)]; simp[Š]
structure Bad (L:List Lk) (N:Nat) (x:List Int) (w:List Bool) (t q:List Int):Prop where
 lx:x.length=N
 lw:w.length=N
 lt:t.length=N
 nodup:q.Nodup
 rng:∀v∈q,0≤v∧v<N
 waits:∀v:Int,0≤v→v<N→(wv w v=true↔v∈q)
 t0:∀v:Int,0≤v→v<N→0≤gv t v∧gv t v≤(N:Int)+1
 bd:∀v:Int,0≤v→v<N→-2305843009213693952≤gv x v∧gv x v≤0
 rel:∀u:Int,0≤u→u<N→u∉q→∀v m,(u,v,m)∈L→gv x v≤gv x u+m
def ael {r:Option ρ} {x:List Int} {w:List Bool} {t q:List Int} (hL:iz L N M) (hp:¬∃p,Pot L p) (k0:(Val (.pair .bool (.pair (.slice tI) (.pair (.slice .bool) (.pair (.slice tI) (.slice tI))))))→Option ρ)
 (hK:∀x w t q,k0 (false,x,w,t,q)=r) (h:Bad L N x w t q) :
 Ê (fun(v64:(Val (.pair (.slice tI) (.pair (.slice .bool) (.pair (.slice tI) (.slice tI)))))) kk69=>ī [] (Ij L) (N:Int) L v64.1 v64.2.1 v64.2.2.1 v64.2.2.2 (fun u65 u66 u67 u68=>kk69 (u65,u66,u67,u68)) k0) (x,w,t,q)=r:=by
 refine ė (fun s:List Int×List Bool×List Int×List Int=>Bad L N s.1 s.2.1 s.2.2.1 s.2.2.2) (fun s=>Re N s.2.2.1) ?_ h;rintro⟨x,w,t,q⟩ h;dsimp only at h ⊢;have hN:=hL.nodes
 cases q with
 |nil =>
  exfalso;exact hp ⟨gv x,fun u v m hl=>h.rel u (hL.inr _ hl).1.1 (hL.inr _ hl).1.2 (by simp) v m hl⟩
 |cons n rest =>
  have hnr:=h.rng n (by simp);have hb:=h.bd n hnr.1 hnr.2;have ht:=h.t0 n hnr.1 hnr.2
  have hrl:rest.length≤1000000:=by
   have:=Ya N (n::rest) h.nodup h.rng;simp only[cX] at this;omega
  have hout:=fun(kn:List Int→List Bool→List Int→List Int→Option ρ)=>Yo (ρ:=ρ) hL (least:=Ij L) hnr h.lx h.lw h.lt hrl ⟨hb.1,by omega⟩ ⟨ht.1,by omega⟩ kn k0
  by_cases hlt:(N:Int)+1<gv t n+1
  ·exact .inl fun kn=>by rw[hout,if_pos hlt]; exact hK _ _ _ _
  ·have hw':(w.set n.toNat false).length=N:=by rw[ff]; exact h.lw
   cases hr:pP n (Ij L) L x (w.set n.toNat false) rest with
   |mk b r' =>
   obtain⟨x',w',q'⟩:=r'
   cases b with
   |false=>exact .inl fun kn=>by rw[hout,if_neg hlt,hr]; exact hK _ _ _ _
   |true =>
    have hnd:=h.nodup;rw[eW] at hnd
    have htl:n.toNat<t.length:=by have:=h.lt; omega
    have ha:=kr hnr hL.inr hL.noloop h.lx hw' hnd.2 (fun v h0 h1=>by
     rw[XF hnr.1 h0 (by have:=h.lw; omega)]
     by_cases hv:v=n
     ·subst hv; simp[hnd.1]
     ·rw[if_neg hv,h.waits v h0 h1]
      simp[hv]) hr
    obtain⟨l,hl,hlv⟩:=ha.new;refine .inr ⟨(x',w',t.set n.toNat (gv t n+1),q'),⟨ha.lx,ha.lw,by rw[ff]; exact h.lt,ha.nodup,fun v hv=>?_,ha.waits,fun v h0 h1=>?_,fun v h0 h1=>?_,fun u h0 h1 hu v m hlk=>?_⟩,Uy htl (by omega),fun kn=>by rw[hout,if_neg hlt,hr]⟩
    ·dsimp only at hv;rw[hl] at hv;rcases List.mem_append.1 hv with hv|hv
     ·exact h.rng v (by simp[hv])
     ·exact(hlv v hv).1
    ·try dsimp only
     rw[rC hnr.1 h0 htl];have:=h.t0 v h0 h1
     split<;>omega
    ·try dsimp only
     have h2:=h.bd v h0 h1;rcases ha.chg v h0 h1 with g|⟨_,g2,m,g3,g4,g5⟩
     ·rw[g]; exact h2
     ·have h3:=VW (L:=L) (fun l hl=>(hL.most l hl).1) hL.m0;have h4:(L.length:Int)*M≤400*4503599627370496:=fT (by have:=hL.len; omega) hL.m1 hL.m0 (by omega);omega
    ·dsimp only at hu ⊢;have hvr:=(hL.inr _ hlk).2
     have heq:gv x' u=gv x u:=by
      rcases ha.chg u h0 h1 with g|⟨g,_⟩
      ·exact g
      ·exact(hu g).elim
     by_cases hun:u=n
     ·subst hun;have h1:=ha.link v m hlk;omega
     ·have hur:u∉n::rest:=by
       intro hc;rcases cO.1 hc with e|hc
       ·exact hun e
       ·exact hu (by rw[hl]; exact dD _ hc)
      have h2:=h.rel u h0 h1 hur v m hlk;have:=ha.le v hvr.1 hvr.2;omega
end
def aaO (N:Nat) (v:Int):Bool:=decide (0≤v)&&decide (v<(N:Int))
def ad5 (s:Int) (v:Int):Bool:=v==s
def Sn (N:Nat):uj (aaO N) N=List.replicate N 0:=by
 refine YK (by simp[č]) fun v h0 h1=>?_;rw[č] at h1;rw[iK _ h0 h1]
 have:aaO N v=true:=by simp[aaO,h0,h1]
 rw[if_pos this];unfold gv;rw[List.getElem?_replicate]
 split<;>rfl
def iL (L:List Lk) (N:Nat):List Int:=kE L N (uj (aaO N) N)
def kI (L:List Lk) (N:Nat):Bool:=decide (Hm L (iL L N)=iL L N)
def yr (L:List Lk) (N:Nat) (s:Int):List Int:=kE L N (uj (ad5 s) N)
section
variable {L:List Lk} {N:Nat} {M:Int}
def aeJ (hL:iz L N M) (hN:N≤200):N*M<Š:=by
 have:(N:Int)*M≤200*4503599627370496:=Int.mul_le_mul (by omega) hL.m1 hL.m0 (by omega);unfold Š;omega
def EN {p:Int→Int} (hL:iz L N M) (hN:N≤200) (hp:Pot L p):aaR L (fun v=>aaO N v=true) N (gv (iL L N)) :=
 I8 hp hL.inr (fun v h=>by simpa[aaO] using h) (fun l hl=>(hL.most l hl).2) hL.m0 (aeJ hL hN) N (by omega)
def B8 {p:Int→Int} (hL:iz L N M) (hN:N≤200) (hp:Pot L p) {s:Int} (hs:0≤s∧s<N):aaR L (fun v=>ad5 s v=true) N (gv (yr L N s)) :=
 I8 hp hL.inr (fun v h=>by simp[ad5] at h; subst h; exact hs) (fun l hl=>(hL.most l hl).2) hL.m0 (aeJ hL hN) N (by omega)
def SN:∀{L:List Lk} {x:List Int},(∀u v m,(u,v,m)∈L→gv x u<Š→gv x v≤gv x u+m)→Hm L x=x
 |[],x,_=>rfl
 |l::t,x,h=>by
  have h1:lQ x l=x:=by
   unfold lQ
   split
   ·rename_i hc;have:=h l.1 l.2.1 l.2.2 (by simp) hc.1;omega
   ·rfl
  show Hm t (lQ x l)=x;rw[h1];exact SN fun u v m hm=>h u v m (by simp[hm])
def kH (hL:iz L N M) (hN:N≤200):kI L N=true↔∃p,Pot L p:=by
 unfold kI;rw[decide_eq_true_eq]
 have hle:∀v:Int,0≤v→v<N→gv (iL L N) v≤0:=by
  intro v h0 h1;have:=Cn hL.inr N (č (aaO N) N) v h0;rw[iK _ h0 h1,if_pos (by simp[aaO,h0,h1])] at this;exact this
 constructor
 ·intro h;refine⟨gv (iL L N),fun u v m hl=>?_⟩;have hr:=(hL.inr _ hl).1;have:=EV hL.inr (x:=iL L N) (by unfold iL; rw[ţ,č]) u v m hl (by have:=hle u hr.1 hr.2; unfold Š; omega)
  rwa [h] at this
 ·rintro⟨p,hp⟩;have hd:=EN hL hN hp;exact SN fun u v m hl hf=>hd.pot hL.inr hl (by omega)
end
section
variable {ρ:Type} {L:List Lk} {N:Nat} {M:Int}
def D7 (hN:N≤1000) (x:Option ρ):á ((ile (0:Int) (N:Int))&&(è (Int.toNat (N:Int)))) x=x:=by
 rw[cW,Õ (by omega)]
 have:((ile (0:Int) (N:Int))&&true)=true:=by simp[ile]
 rw[this,Am.iff_true]
def VK (hL:iz L N M) (h1:1≤N) (hN:N≤200) (k0:(Val (.pair .bool (.pair (.slice tI) (.pair (.slice .bool) (.pair (.slice tI) (.slice tI))))))→Option ρ) {rT rF:Option ρ}
 (hT:kI L N=true→∀w t q,k0 (true,iL L N,w,t,q)=rT) (hF:∀x w t q,k0 (false,x,w,t,q)=rF) :
 (Ê (fun(v70:(Val (.pair tI (.pair (.slice .bool) (.slice tI))))) kk74=>Ř (N:Int) (List.replicate N (0:Int)) v70.1 v70.2.1 v70.2.2 (fun u71 u72 u73=>kk74 (u71,u72,u73)) (fun z9=>Ê (fun(v64:(Val (.pair (.slice tI) (.pair (.slice .bool) (.pair (.slice tI) (.slice tI)))))) kk69=>ī [] (Ij L) (N:Int) L v64.1 v64.2.1 v64.2.2.1 v64.2.2.2 (fun u65 u66 u67 u68=>kk69 (u65,u66,u67,u68)) k0) ((List.replicate N (0:Int)),z9.1,(List.replicate N (0:Int)),z9.2))) ((0:Int),(List.replicate N false),([]:List Int)))=if kI L N then rT else rF:=by
 refine abm (by simp) (by omega) _ fun w q hw hq hr hwq hqs=>?_
 try dsimp only
 have hS:∀v,aaO N v=true→0≤v∧v<N:=fun v h=>by simpa[aaO] using h
 by_cases ho:kI L N=true
 ·rw[if_pos ho];obtain⟨p,hp⟩:=(kH hL hN).1 ho;have hs:=NY hL h1 hS hw hq hr hwq (fun v a b=>by rw[Sn]; exact hqs v a b);rw[Sn] at hs;refine Sq hL (aeJ hL hN) hp hS k0 (fun x w t q hx hd=>?_) hs
  have:x=iL L N:=by
   refine YK (by rw[hx]; unfold iL; rw[ţ,č]) fun v a b=>?_;exact hd.uniq (EN hL hN hp) a (by omega)
  rw[this]; exact hT ho w t q
 ·rw[if_neg ho];refine ael hL (fun hp=>ho ((kH hL hN).2 hp)) k0 hF ?_
  have hg:∀v,gv (List.replicate N (0:Int)) v=0:=by
   intro v;unfold gv;rw[List.getElem?_replicate]
   split<;>rfl
  refine⟨by simp,hw,by simp,hq,hr,hwq,fun v a b=>?_,fun v a b=>?_,fun u a b hu v m hl=>?_⟩
  ·rw[hg]; omega
  ·rw[hg]; omega
  ·exact(hu ((hqs u a b).2 (by rw[hg]; unfold Š; omega))).elim
end
def shift_ok {ρ:Type} {x:List Int} (f:Int) (hx:x.length≤1000) (hf : -2305843009213693952≤f∧f≤2305843009213693952) (hb:∀a∈x,-2305843009213693952≤a∧a≤2305843009213693952) (k0:List Int→Option ρ) :
 Ê (fun(v60:(Val (.pair tI (.slice tI)))) kk63=>iX f (Ù x) v60.1 v60.2 (fun u61 u62=>kk63 (u61,u62)) k0) ((0:Int),x)=k0 (x.map fun a=>a-f):=by
 refine ģ x (fun i=>(x.take i).map (fun a=>a-f)++x.drop i) _ (by simp) (fun i a hi ha kn=>?_) (fun kn=>?_)
 ·try dsimp only
  unfold iX
  have hlen:((x.take i).map (fun a=>a-f)++x.drop i).length=x.length:=by simp; omega
  have hget:((x.take i).map (fun a=>a-f)++x.drop i)[i]?=some a:=by
   rw[fO (by simp; omega)];simp only[dA,dc,dW];rw[←ha]; congr 1; omega
  have hi':i<((x.take i).map (fun a=>a-f)++x.drop i).length:=by omega
  have ha':=hb a (cP ha);rw[Ï hi,Ĭ hi',ð hget,Ó (by omega) (by omega),Ĭ hi',ð hget,Ë hi (by omega),cW,take_succ ha];congr 2;rw[dF hi,fg,cR,gk _ _ (by simp; omega)]
  have:i-(List.map (fun a=>a-f) (List.take i x)).length=0:=by simp; omega
  rw[this]
  have h1:x[i]=a:=by rw[cG hi] at ha; simpa using ha
  simp[h1]
 ·try dsimp only
  unfold iX;rw[Ý];simp
section
variable {L:List Lk} {N:Nat} {M:Int}
def aem (hL:iz L N M) (hN:N≤200) (ho:kI L N=true):∀a∈iL L N,-2305843009213693952≤a∧a≤0:=by
 obtain⟨p,hp⟩:=(kH hL hN).1 ho;have hd:=EN hL hN hp;intro a ha;obtain⟨i,hi,rfl⟩:=cT.1 ha
 have hlen:(iL L N).length=N:=by unfold iL; rw[ţ,č]
 have h0:gv (iL L N) i=(iL L N)[i]:=by unfold gv; simp[hi]
 have hle:=Cn hL.inr N (č (aaO N) N) (i:Int) (by omega);rw[iK _ (by omega) (by omega),if_pos (by simp[aaO]; omega)] at hle;have hle':gv (iL L N) i≤0:=hle;obtain⟨vs,hw⟩:=hd.att i (by omega) (by omega) (by unfold Š; omega);have h1:=hw.low' hp;have h3:=VW (L:=L) (fun l hl=>(hL.most l hl).1) hL.m0;have h4:(L.length:Int)*M≤400*4503599627370496:=Int.mul_le_mul (by have:=hL.len; omega) hL.m1 hL.m0 (by omega);omega
def solP (L:List Lk) (N:Nat):List Int:=(iL L N).map fun a=>a-gv (iL L N) 0
def uk (hL:iz L N M) (h1:1≤N) (hN:N≤200):ks ((N:Int),L) []=some (if kI L N then(solP L N,true) else([],false)):=by
 unfold ks xB
 try dsimp only
 rw[D7 (by omega),D7 (by omega),D7 (by omega),cW];refine eN (YD hL _) ?_;refine eN (VK hL h1 hN _ (rT:=some (solP L N,true)) (rF:=some ([],false)) (fun ho w t q=>?_) (fun x w t q=>?_)) ?_
 ·try dsimp only
  have hlen:(iL L N).length=N:=by unfold iL; rw[ţ,č]
  have hb:=aem hL hN ho;have h0:ilt (0:Int) (í (iL L N))=true:=decide_eq_true (show(0:Int)<((iL L N).length:Int) by omega);have hg:(iL L N)[0]?=some (gv (iL L N) 0):=YJ (v:=0) (show 0<_ by omega);have hm:=hb _ (cP hg);rw[show(!true)=false from rfl,é,ý h0,iN hg];exact shift_ok _ (by omega) ⟨hm.1,by omega⟩ (fun a ha=>⟨(hb a ha).1,by have:=(hb a ha).2; omega⟩) _
 ·rfl
 ·cases kI L N<;>rfl
structure jr (L:List Lk) (N:Nat):Prop where
 n1:1≤N
 n60:N≤60
 len:L.length≤300
 inr:InR L N
 noloop:∀l∈L,l.1≠l.2.1
 most:∀l∈L,-4503599627370496≤l.2.2∧l.2.2≤4503599627370496
def jr.links (h:jr L N):iz L N 4503599627370496 :=
 ⟨h.inr,h.noloop,h.most,by have:=h.len; omega,by have:=h.n60; omega,by omega,by omega⟩
def VV (n:Int) (L:List Lk) (v:Int):yW (n,L) v=some (decide (0≤v)&&decide (v<n)):=by
 unfold yW Qm ige
 by_cases h:0≤v
 ·have:decide (v≥0)=true:=by simpa using h
  rw[Ú this]; simp[h]
 ·have:decide (v≥0)=false:=by simpa using h
  rw[Ð this]; simp[h]
def lH (h:jr L N):pT ((N:Int),L)=some (0,-1):=by
 have h1:=h.n1;have h2:=h.n60;have h3:=h.len;unfold pT Kn
 try dsimp only
 rw[Ð (by simp[ilt]; omega),Ð (by simp[igt]; omega),Ð (by rw[Ô]; simp[igt]; omega)];refine eN (i5 L (fun _=>false) (fun i=>some (1,i)) (some (0,-1)) (fun i l hi hl kn=>?_) (fun kn=>?_)) ?_
 ·try dsimp only
  unfold rg;have hm:=List.mem_of_getElem? hl;have a:=h.inr l hm;have b:=h.noloop l hm;have c:=h.most l hm
  have e1:(decide (0≤l.1)&&decide (l.1<(N:Int)))=true:=by simp[a.1.1,a.1.2]
  have e2:(decide (0≤l.2.1)&&decide (l.2.1<(N:Int)))=true:=by simp[a.2.1,a.2.2]
  rw[Ï hi,È hl,VV,À,e1,VV,À,e2];simp only[dB,é,cV,if_false];rw[Ð (by simp[ieq,b]),Ð (by simp[ilt]; omega),Ð (by simp[igt]; omega),Ë hi (by omega)]
 ·try dsimp only
  unfold rg;rw[Ý]
 ·rw[dE.2 (by simp)]
def vt {ρ:Type} {x:List Int} {v:Int} (h0:0≤v) (h:v.toNat<x.length) (f:Int→Option ρ):Ĥ x v f=f (gv x v):=by
 obtain⟨i,rfl⟩:=Int.eq_ofNat_of_zero_le h0;exact È (YJ h) f
end
section
variable {b:Ĕ}
def vE (b:Ĕ) (g:Ā):(ä b g).Pairwise (·<·):=VF _
def UO (h:Ξ b) {g:Ā} (hg:g∈b.2.1):∃t,ä b g=g.2.1::t:=by
 have h1:=vE b g;have h2:=rK (b:=b) g;have h3:∀d∈ä b g,g.2.1≤d:=fun d hd=>(h.day hg hd).1
 cases hd:ä b g with
 |nil=>rw[hd] at h2; cases h2
 |cons a t =>
  rw[hd] at h1 h2 h3;rw[dz] at h1;rcases cO.1 h2 with e|e
  ·exact⟨t,by rw[e]⟩
  ·have:=h1.1 _ e;have:=h3 a (by simp);omega
def off (b:Ĕ) (i:Nat):Nat:=((b.2.1.take i).flatMap fun g=>(ä b g).map fun d=>((g.1,d):Int×Int)).length
def A8 {i:Nat} {g:Ā} (hg:b.2.1[i]?=some g):Ò b=((b.2.1.take i).flatMap fun g=>(ä b g).map fun d=>((g.1,d):Int×Int))++(((ä b g).map fun d=>((g.1,d):Int×Int))++((b.2.1.drop (i+1)).flatMap fun g=>(ä b g).map fun d=>((g.1,d):Int×Int))):=by
 obtain⟨hi,rfl⟩:=cJ.1 hg
 have h1:b.2.1=b.2.1.take i++(b.2.1[i]::b.2.1.drop (i+1)):=by
  rw[←dF hi,dQ]
 unfold Ò
 conv=>lhs; rw[h1]
 rw[fH,dG]
def PK (h:Ξ b) {i:Nat} {g:Ā} (hg:b.2.1[i]?=some g) {k:Nat} {d:Int} (hk:(ä b g)[k]?=some d):jB (Ò b) g.1 d=some (off b i+k):=by
 obtain⟨hi,hgi⟩:=List.getElem?_eq_some_iff.1 hg;obtain⟨hkl,hkd⟩:=List.getElem?_eq_some_iff.1 hk;unfold jB;rw[A8 hg,List.findIdx?_append,List.findIdx?_append]
 have h1:List.findIdx? (fun n:Int×Int=>decide (g.1=n.1)&&decide (d=n.2)) ((b.2.1.take i).flatMap fun g=>(ä b g).map fun d=>((g.1,d):Int×Int))=none:=by
  rw[dE];intro x hx;obtain⟨g',hg',hx⟩:=dv.1 hx;obtain⟨d',_,rfl⟩:=dt.1 hx;obtain⟨j,hj,rfl⟩:=cT.1 hg';rw[dc] at hj;rw[eT];have:=(du.1 h.ids) j i (by omega) hi (by omega);rw[hgi] at this;simp only[gQ,decide_eq_false_iff_not];exact .inl (by omega)
 have h2:List.findIdx? (fun n:Int×Int=>decide (g.1=n.1)&&decide (d=n.2)) ((ä b g).map fun d=>((g.1,d):Int×Int))=some k:=by
  rw[dH];refine⟨by simpa using hkl,by simp[hkd],fun j hj=>?_⟩;have:=(du.1 (vE b g)) j k (by omega) hkl hj;rw[hkd] at this;simp only[List.getElem_map,cI,decide_eq_true_eq,not_and];intro _;omega
 rw[h1,h2];simp only[Option.map_some,Option.some_or,Option.none_or];unfold off;congr 1;omega
def aeH {i:Nat} {g:Ā} (hg:b.2.1[i]?=some g) {k:Nat} {d:Int} (hk:(ä b g)[k]?=some d):(Ò b)[off b i+k]?=some (g.1,d):=by
 obtain⟨hkl,hkd⟩:=List.getElem?_eq_some_iff.1 hk;rw[A8 hg,List.getElem?_append_right (by unfold off; omega),List.getElem?_append_left (by unfold off; simp; omega)];unfold off;simp[hk]
def afD (h:Ξ b) {i:Nat} {g:Ā} (hg:b.2.1[i]?=some g):atP (Ò b) [g.1] g.2.1=(off b i:Int)+1:=by
 obtain⟨t,ht⟩:=UO h (List.mem_of_getElem? hg);have:=PK h hg (k:=0) (d:=g.2.1) (by rw[ht]; rfl);unfold atP;simp only[this];rfl
def agY (h:Ξ b) {i:Nat} {g:Ā} (hg:b.2.1[i]?=some g):off b i+(ä b g).length≤(Ò b).length:=by
 rw[A8 hg];unfold off;simp only[List.length_append,List.length_map];omega
def aeF {i:Nat} {g:Ā} (hg:b.2.1[i]?=some g):off b (i+1)=off b i+(ä b g).length:=by
 unfold off;rw[take_succ hg,List.flatMap_append];simp
def Te (h:Ξ b) {c:Cmp} (hc:c∈b.2.2.2.2.1) {x:Int} (hx:(x∈c.2.2.1∧x∉c.2.2.2.1)∨(x∈c.2.2.2.1∧x∉c.2.2.1)):∃j,jB (Ò b) x c.2.1=some j:=by
 have hm:x∈c.2.2.1++c.2.2.2.1:=by rw[cN]; exact hx.imp (·.1) (·.1)
 obtain⟨⟨g,hg,_⟩,_⟩:=h.pile hc hm;obtain⟨hgm,hgx⟩:=ii hg;obtain⟨i,hi,hgi⟩:=cT.1 hgm
 have hd:c.2.1∈ä b g:=Ż.2 (.inr (.inl ⟨c,hc,by
  rw[hgx];rcases hx with⟨h1,h2⟩|⟨h1,h2⟩
  ·have e1:c.2.2.1.contains x=true:=by simpa using h1
   have e2:c.2.2.2.1.contains x=false:=by simpa using h2
   rw[e1,e2]; simp
  ·have e1:c.2.2.2.1.contains x=true:=by simpa using h1
   have e2:c.2.2.1.contains x=false:=by simpa using h2
   rw[e1,e2]; simp,rfl⟩))
 obtain⟨k,hk,hkd⟩:=cT.1 hd;have:=PK h (g:=g) (i:=i) (by rw[cG hi,hgi]) (k:=k) (d:=c.2.1) (by rw[cG hk,hkd]);rw[hgx] at this;exact⟨_,this⟩
inductive aaK (b:Ĕ) (p:List Int) (d:Int) (n:Int):Prop
 |none:p=[]→n=0→aaK b p d n
 |one (x:Int) (j:Nat):p=[x]→jB (Ò b) x d=some j→n=(j:Int)+1→aaK b p d n
def ac9 (h:Ξ b) {c:Cmp} (hc:c∈b.2.2.2.2.1):aaK b (ÿ c.2.2.1 c.2.2.2.1) c.2.1 (cx b c):=by
 have hl:=(h.lefts hc).1
 cases hp:ÿ c.2.2.1 c.2.2.2.1 with
 |nil=>exact .none rfl (by unfold cx atP; rw[hp])
 |cons x t =>
  rw[hp] at hl
  have:t=[]:=by cases t with|nil=>rfl|cons=>simp at hl
  subst this;obtain⟨j,hj⟩:=Te h hc (x:=x) (.inl (nJ.1 (by rw[hp]; simp)));exact .one x j rfl hj (by unfold cx atP; rw[hp]; simp only[hj])
def Xf (h:Ξ b) {c:Cmp} (hc:c∈b.2.2.2.2.1):aaK b (ÿ c.2.2.2.1 c.2.2.1) c.2.1 (cy b c):=by
 have hl:=(h.lefts hc).2.1
 cases hp:ÿ c.2.2.2.1 c.2.2.1 with
 |nil=>exact .none rfl (by unfold cy atP; rw[hp])
 |cons x t =>
  rw[hp] at hl
  have:t=[]:=by cases t with|nil=>rfl|cons=>simp at hl
  subst this;obtain⟨j,hj⟩:=Te h hc (x:=x) (.inr (nJ.1 (by rw[hp]; simp)));exact .one x j rfl hj (by unfold cy atP; rw[hp]; simp only[hj])
def aaK.rng {p:List Int} {d n:Int} (h:aaK b p d n):0≤n∧n<((Ò b).length+1:Nat):=by
 rcases h with⟨_,h⟩|⟨x,j,_,h1,h2⟩
 ·omega
 ·have:=(kj h1).1;omega
def afi (h:Ξ b) {c:Cmp} (hc:c∈b.2.2.2.2.1):cx b c≠cy b c:=by
 have hl:=(h.lefts hc).2.2;rcases ac9 h hc with⟨h1,h2⟩|⟨x,j,h1,h2,h3⟩
 ·rcases Xf h hc with⟨g1,g2⟩|⟨y,k,g1,g2,g3⟩
  ·rw[h1,g1] at hl; simp at hl
  ·omega
 ·rcases Xf h hc with⟨g1,g2⟩|⟨y,k,g1,g2,g3⟩
  ·omega
  ·intro e
   have:j=k:=by omega
   subst this;have e1:=(kj h2).2;have e2:=(kj g2).2;rw[e1] at e2;simp only[Option.some.injEq,Prod.mk.injEq] at e2
   have m1:x∈ÿ c.2.2.1 c.2.2.2.1:=by rw[h1]; simp
   have m2:y∈ÿ c.2.2.2.1 c.2.2.1:=by rw[g1]; simp
   rw[e2.1] at m1;exact(nJ.1 m1).2 (nJ.1 m2).1
def acq (h:Ξ b):(i6 b).length=2*(Ò b).length+2*b.2.2.2.2.1.length:=by
 have h1:∀l:List Ā,(∀g∈l,g∈b.2.1)→(l.flatMap (Ő b)).length=2*(l.flatMap fun g=>(ä b g).map fun d=>((g.1,d):Int×Int)).length:=by
  intro l
  induction l with
  |nil=>intro _; rfl
  |cons g t ih =>
   intro hm;have:=ih fun g hg=>hm g (by simp[hg]);have hp:=List.length_pos_of_mem (rK (b:=b) g);simp only[List.flatMap_cons,List.length_append,List.length_map,this];unfold Ő;rw[List.length_append,pe _ _ (fun _=>rfl)];simp only[List.length_cons,List.length_nil];omega
 have h2:∀l:List Cmp,(l.flatMap (ja b)).length=2*l.length:=by
  intro l
  induction l with
  |nil=>rfl
  |cons c t ih =>
   simp only[dG,cM,ih,ja,cX,dZ];omega
 unfold i6;rw[List.length_append,h1 _ fun _ h=>h,h2];rfl
def Ľ (h:Ξ b) {i:Nat} {g:Ā} (hg:b.2.1[i]?=some g) {l:Lk}:l∈Ő b g ↔
 l=(0,(off b i:Int)+1,g.2.2.1+g.2.2.2.1.2)∨l=((off b i:Int)+1,0,-(g.2.2.1+g.2.2.2.1.1)) ∨
 ∃(k:Nat) (d e:Int),(ä b g)[k]?=some d∧(ä b g)[k+1]?=some e∧(l=((off b i:Int)+k+1,(off b i:Int)+k+2,0)∨l=((off b i:Int)+k+2,(off b i:Int)+k+1,lm b g d e)):=by
 unfold Ő;rw[afD h hg];simp only[List.mem_append,List.mem_cons,List.not_mem_nil,or_false,List.mem_flatMap,List.mem_range];constructor
 ·rintro((h1|h1)|⟨k,hk,h1⟩)
  ·exact .inl h1
  ·exact .inr (.inl h1)
  ·refine .inr (.inr ⟨k,(ä b g)[k],(ä b g)[k+1],cG (by omega),cG (by omega),?_⟩);rw[cG (show k<(ä b g).length by omega),cG (show k+1<(ä b g).length by omega)] at h1;simp only[gP] at h1
   have e1:(off b i:Int)+1+k=(off b i:Int)+k+1:=by omega
   have e2:(off b i:Int)+k+1+1=(off b i:Int)+k+2:=by omega
   rw[e1,e2] at h1;exact h1
 ·rintro(h1|h1|⟨k,d,e,hd,he,h1⟩)
  ·exact .inl (.inl h1)
  ·exact .inl (.inr h1)
  ·obtain⟨h2,rfl⟩:=cJ.1 hd;obtain⟨h3,rfl⟩:=cJ.1 he;refine .inr ⟨k,by omega,?_⟩;rw[hd,he];simp only[gP]
   have e1:(off b i:Int)+1+k=(off b i:Int)+k+1:=by omega
   have e2:(off b i:Int)+k+1+1=(off b i:Int)+k+2:=by omega
   rw[e1,e2];exact h1
def oV {l:Lk}:l∈i6 b↔(∃(i:Nat) (g:Ā),b.2.1[i]?=some g∧l∈Ő b g)∨∃c∈b.2.2.2.2.1,l=(cy b c,cx b c,(wG b c).2)∨l=(cx b c,cy b c,-(wG b c).1):=by
 unfold i6;simp only[List.mem_append,List.mem_flatMap,ja,List.mem_cons,List.not_mem_nil,or_false];constructor
 ·rintro(⟨g,hg,h⟩|h)
  ·obtain⟨i,hi,rfl⟩:=cT.1 hg;exact .inl ⟨i,_,cG hi,h⟩
  ·exact .inr h
 ·rintro(⟨i,g,hg,h⟩|h)
  ·exact .inl ⟨g,cP hg,h⟩
  ·exact .inr h
def Ξ.sys (h:Ξ b):jr (i6 b) ((Ò b).length+1):=by
 have hN:=h.nodes;have hL:=h.links
 have key:∀l∈i6 b,((0≤l.1∧l.1<((Ò b).length+1:Nat))∧(0≤l.2.1∧l.2.1<((Ò b).length+1:Nat)))∧l.1≠l.2.1∧(-4503599627370496≤l.2.2∧l.2.2≤4503599627370496):=by
  intro l hl;rcases oV.1 hl with⟨i,g,hg,hl⟩|⟨c,hc,hl⟩
  ·have hgm:=cP hg;have hr:=h.gaugeR hgm;have ho:=agY h hg;have hp:=List.length_pos_of_mem (rK (b:=b) g);have r1:=hr.2.2.2.2.2.1;have r2:=hr.2.2.2.2.2.2.1;rcases(Ľ h hg).1 hl with rfl|rfl|⟨k,d,e,hd,he,h1⟩
   ·dsimp only; omega
   ·dsimp only; omega
   ·obtain⟨h2,_⟩:=cJ.1 he;have d1:=h.day hgm (cP hd);have lb:=vp h hgm (t:=e) d1.2.1;rcases h1 with rfl|rfl
    ·dsimp only; omega
    ·dsimp only; omega
  ·have a:=(ac9 h hc).rng;have b':=(Xf h hc).rng;have ne:=afi h hc;have sb:=IZ h hc;rcases hl with rfl|rfl
   ·dsimp only; omega
   ·dsimp only; omega
 exact⟨by omega,by omega,by rw[acq h]; omega,fun l hl=>(key l hl).1,fun l hl=>(key l hl).2.1,fun l hl=>(key l hl).2.2⟩
end
def Vv (b:Ĕ) (id day:Int):Bool:=b.2.2.1.any fun u=>u.1==id&&u.2==day
def ac6 (b:Ĕ) (g:Ā) (d:Int):Int:=match lM b g.1 d with|some l=>l.2.2|none=>if Vv b g.1 d then g.2.2.2.2.2 else 0
def ack (l:IH) (id:Int) {f t:Int} (hft:f≤t):(if l.1=id∧0<Ę l f (t+1) then Ę l f (t+1)*l.2.2 else 0)=(if l.1=id∧0<Ę l f t then Ę l f t*l.2.2 else 0)+(if l.1=id∧l.2.1.1≤t∧t≤l.2.1.2 then l.2.2 else 0):=by
 by_cases hid:l.1=id
 ·by_cases h1:l.2.1.1≤t∧t≤l.2.1.2
  ·have e:Ę l f (t+1)=Ę l f t+1:=by unfold Ę; omega
   have p:0≤Ę l f t:=by unfold Ę; omega
   rw[e,if_pos ⟨hid,by omega⟩,if_pos (show l.1=id∧l.2.1.1≤t∧t≤l.2.1.2 from⟨hid,h1⟩),gh,gA]
   by_cases hp:0<Ę l f t
   ·rw[if_pos ⟨hid,hp⟩]
   ·rw[if_neg (fun h=>hp h.2)]
    have:Ę l f t=0:=by omega
    rw[this];omega
  ·rw[if_neg (show ¬(l.1=id∧l.2.1.1≤t∧t≤l.2.1.2) from fun h=>h1 h.2),gG]
   by_cases hlo:l.2.1.1≤t
   ·have e:Ę l f (t+1)=Ę l f t:=by unfold Ę; omega
    rw[e]
   ·have p1:¬0<Ę l f (t+1):=by unfold Ę; omega
    have p2:¬0<Ę l f t:=by unfold Ę; omega
    rw[if_neg (fun h=>p1 h.2),if_neg (fun h=>p2 h.2)]
 ·rw[if_neg (fun h=>hid h.1),if_neg (fun h=>hid h.1),if_neg (fun h=>hid h.1)];rfl
def OM (id:Int) {f t:Int} (hft:f≤t):∀{x:List IH},x.Pairwise (fun a c=>¬(a.1=c.1∧a.2.1.1≤c.2.1.2∧c.2.1.1≤a.2.1.2)) →
 ĸ id f (t+1) x=ĸ id f t x+(match x.find? (fun l=>l.1==id&&inP t l.2.1.1 l.2.1.2) with|some l=>l.2.2|none=>0)
 |[],_=>rfl
 |l::r,hp=>by
  rw[dz] at hp;have ih:=OM id hft hp.2;simp only[ĸ];rw[ih,ack l id hft,fw]
  by_cases hm:l.1=id∧l.2.1.1≤t∧t≤l.2.1.2
  ·have e:(l.1==id&&inP t l.2.1.1 l.2.1.2)=true:=by simp[inP,hm.1,hm.2.1,hm.2.2]
   have hn:r.find? (fun l=>l.1==id&&inP t l.2.1.1 l.2.1.2)=none:=by
    rw[eo];intro c hc hcm;simp only[inP,cI,beq_iff_eq,decide_eq_true_eq] at hcm;exact hp.1 c hc ⟨by rw[hm.1,hcm.1],by omega,by omega⟩
   rw[if_pos hm,e,hn];simp only;omega
  ·have e:(l.1==id&&inP t l.2.1.1 l.2.1.2)=false:=by
    rw[ej];intro h;simp only[inP,cI,beq_iff_eq,decide_eq_true_eq] at h;exact hm h
   rw[if_neg hm,e];simp only;omega
section
variable {b:Ĕ}
def Ξ.apart (h:Ξ b):b.2.2.2.1.Pairwise (fun a c=>¬(a.1=c.1∧a.2.1.1≤c.2.1.2∧c.2.1.1≤a.2.1.2)):=by
 rw[List.pairwise_iff_getElem];intro i j hi hj hij ⟨h1,h2,h3⟩;have hz:=h.loans j _ (List.getElem?_eq_getElem hj);unfold Rb at hz
 have hany:(b.2.2.2.1.take j).any (fun x=>x.1==b.2.2.2.1[j].1&&(decide (x.2.1.1≤b.2.2.2.1[j].2.1.2)&&decide (b.2.2.2.1[j].2.1.1≤x.2.1.2)))=true:=by
  rw[dj];exact⟨b.2.2.2.1[i],cT.2 ⟨i,by rw[dc]; omega,by rw[eT]⟩,by simp[h1,h2,h3]⟩
 rw[hany] at hz
 (repeat' split at hz)<;>first|omega|simp_all
def Ξ.notUsed (h:Ξ b) {id d:Int} {l:IH} (hl:lM b id d=some l):Vv b id d=false:=by
 have hm:=fq hl;have hp:=f5 hl;simp only[inP,cI,beq_iff_eq,decide_eq_true_eq] at hp;obtain⟨j,hj,rfl⟩:=cT.1 hm;have hz:=h.loans j _ (cG hj);rw[ej];intro hu;obtain⟨u,hu,hue⟩:=dj.1 hu;simp only[cI,beq_iff_eq] at hue
 have hany:b.2.2.1.any (fun u=>u.1==b.2.2.2.1[j].1&&inP u.2 b.2.2.2.1[j].2.1.1 b.2.2.2.1[j].2.1.2)=true:=by
  rw[dj];exact⟨u,hu,by simp only[inP,cI,beq_iff_eq,decide_eq_true_eq]; exact⟨by rw[hue.1,hp.1],by omega,by omega⟩⟩
 unfold Rb at hz;rw[hany] at hz
 (repeat' split at hz)<;>first|omega|simp_all
def Sd {id f t:Int} (hft:f≤t):Vn (iH b id f (t+1))=Vn (iH b id f t)++if Vv b id t then[t] else[]:=by
 have hm:∀t x,x∈iH b id f t↔Vv b id x=true∧f≤x∧x<t:=by
  intro t x;unfold iH Vv;simp only[List.mem_map,List.mem_filter,List.any_eq_true,inP,Bool.and_eq_true,beq_iff_eq,decide_eq_true_eq];constructor
  ·rintro⟨u,⟨h1,h2,h3,h4⟩,rfl⟩;exact⟨⟨u,h1,h2,rfl⟩,h3,by omega⟩
  ·rintro⟨⟨u,h1,h2,rfl⟩,h3,h4⟩;exact⟨u,⟨h1,h2,h3,by omega⟩,rfl⟩
 refine adU (VF _) ?_ fun x=>?_
 ·rw[fR]
  refine⟨VF _,by split<;>simp,fun a ha c hc=>?_⟩
  rw[Cm,hm] at ha
  split at hc
  ·rw[cQ] at hc; omega
  ·cases hc
 ·rw[Cm,hm,cN,Cm,hm]
  by_cases hu:Vv b id t=true
  ·rw[if_pos hu,cQ];constructor
   ·rintro⟨h1,h2,h3⟩
    by_cases he:x=t
    ·exact .inr he
    ·exact .inl ⟨h1,h2,by omega⟩
   ·rintro(⟨h1,h2,h3⟩|rfl)
    ·exact⟨h1,h2,by omega⟩
    ·exact⟨hu,hft,by omega⟩
  ·rw[if_neg hu];constructor
   ·rintro⟨h1,h2,h3⟩;refine .inl ⟨h1,h2,?_⟩
    by_cases he:x=t
    ·rw[he] at h1; exact absurd h1 hu
    ·omega
   ·rintro(⟨h1,h2,h3⟩|h)
    ·exact⟨h1,h2,by omega⟩
    ·cases h
def Us (h:Ξ b) (g:Ā) {f t:Int} (hft:f≤t):lm b g f (t+1)=lm b g f t+ac6 b g t:=by
 unfold lm ac6;rw[OM g.1 hft h.apart,Sd hft];show ĸ g.1 f t b.2.2.2.1+(match lM b g.1 t with|some l=>l.2.2|none=>0)+_=_
 cases ha:lM b g.1 t with
 |some l =>
  rw[h.notUsed ha];simp only[cV,if_false,dh];omega
 |none =>
  simp only
  cases Vv b g.1 t with
  |true=>simp only[if_true,cM,dJ,Int.natCast_add,gh]; omega
  |false=>simp only[cV,if_false,dh]; omega
def Ut (g:Ā) {f t:Int} (hft:t≤f):lm b g f t=0:=by
 unfold lm
 have h1:∀x:List IH,ĸ g.1 f t x=0:=by
  intro x
  induction x with
  |nil=>rfl
  |cons l r ih =>
   simp only[ĸ];rw[ih,if_neg (by unfold Ę; omega)];rfl
 have h2:iH b g.1 f t=[]:=by
  unfold iH
  rw[gO.2 fun u hu hc=>by
   simp only[inP,cI,beq_iff_eq,decide_eq_true_eq] at hc
   omega]
  rfl
 rw[h1,h2];have h3:Vn ([]:List Int)=[]:=rfl;rw[h3];simp
end
def adK {ρ:Type}:@uR ρ=@gY ρ:=rfl
def adJ {ρ:Type}:@uQ ρ=@Ř ρ:=rfl
def adI {ρ:Type}:@uP ρ=@ī ρ:=rfl
def UE {ρ:Type} {N:Nat} (hN:N≤1000) (x:Option ρ):á ((ile (0:Int) (N:Int))&&(è N)) x=x:=by
 have:=D7 hN x
 rwa [cW] at this
section
variable {L:List Lk} {N:Nat} {M:Int}
def abj {s:Int} (hs:0≤s∧s<N):(List.replicate N Š).set s.toNat 0=uj (ad5 s) N:=by
 refine YK (by simp[č]) fun v h0 h1=>?_
 have hv:v<N:=by simpa using h1
 rw[iK _ h0 hv,rC hs.1 h0 (by simp; omega)];unfold ad5
 by_cases h:v=s
 ·simp[h]
 ·simp only[h,if_false,beq_iff_eq];unfold gv;rw[List.getElem?_replicate]
  have:v.toNat<N:=by omega
  simp[this]
def U9 (hL:iz L N M) (h1:1≤N) (hN:N≤200) (ho:kI L N=true) {s:Int} (hs:0≤s∧s<N):tS ((N:Int),L) [] s=some (yr L N s):=by
 obtain⟨p,hp⟩:=(kH hL hN).1 ho;unfold tS FB;rw[adK,adJ,adI];dsimp only;rw[D7 (by omega),Int.toNat_natCast];refine ģ (List.replicate N (0:Int)) (fun i=>List.replicate i Š++List.replicate (N-i) 0) _ (by simp) (fun i a hi ha kn=>?_) (fun kn=>?_)
 ·dsimp only;unfold oA
  have hiN:i<N:=by simpa using hi
  have hl:i<(List.replicate i Š++List.replicate (N-i) (0:Int)).length:=by simp; omega
  rw[Ï hi,Ĭ hl,ð (cG hl),Ë hiN (by omega),cW];congr 2;rw[gk _ _ (by simp)]
  have:N-i=(N-(i+1))+1:=by omega
  rw[this,fp,gT,fX,List.set_cons_zero,List.replicate_succ'];simp
 ·try dsimp only
  unfold oA;rw[Ý];dsimp only
  have e0:List.replicate (List.replicate N (0:Int)).length Š++List.replicate (N-(List.replicate N (0:Int)).length) 0=List.replicate N Š:=by simp
  rw[e0]
  have hlen:s.toNat<(List.replicate N Š).length:=by simp; omega
  rw[show í (List.replicate N Š)=((N:Nat):Int) by simp[í],Α hs.1 hs.2,j9 hlen,UE (by omega),UE (by omega),abj hs];refine eN (YD hL _) ?_
  have hS:∀v,ad5 s v=true→0≤v∧v<N:=fun v h=>by simp[ad5] at h; subst h; exact hs
  refine abm (č _ _) (by omega) _ fun w q hw hq hr hwq hqs=>?_;have hs0:=NY hL h1 hS hw hq hr hwq hqs;refine Sq hL (aeJ hL hN) hp hS _ (fun x w t q hx hd=>?_) hs0
  have:x=yr L N s:=by
   refine YK (by rw[hx]; unfold yr; rw[ţ,č]) fun v a b=>?_;exact hd.uniq (B8 hL hN hp hs) a (by omega)
  dsimp only;rw[this]
def afG (h:jr L N) {ns:List Int} (hn:∀n∈ns,0≤n∧n<N) (hl:ns.length≤1000):Eo ((N:Int),L) ns=some (if kI L N then 0 else 9):=by
 have h2:=h.n60;unfold Eo Kc;rw[lH h,À];dsimp only;rw[Ð (by rfl)];refine Eq.trans (i5 ns (fun _=>false) (fun _=>some 1) (some (if kI L N then 0 else 9)) (fun i n hi hm kn=>?_) (fun kn=>?_)) ?_
 ·try dsimp only
  unfold qX;have a:=hn n (List.mem_of_getElem? hm)
  have e:(decide (0≤n)&&decide (n<(N:Int)))=true:=by simp[a.1,a.2]
  rw[Ï hi,È hm,VV,À,e,Ë hi (by omega)];simp
 ·try dsimp only
  unfold qX;rw[Ý,uk h.links h.n1 (by omega),À]
  cases kI L N<;>rfl
 ·rw[dE.2 (by simp)]
end
def Va:Ĕ:=((0,0),[],[],[],[],[])
structure In (b:Ĕ):Prop where
 size:t8 b
 num:∀g∈b.2.1,I64 g.2.2.2.2.1.1
def RW (b:Ĕ):Sys×List (Int×Int)×Int:=if Ġ b≠0 then((0,[]),[],Ġ b) else((((Ò b).length:Int)+1,i6 b),Pn b,0)
def Vh {b:Ĕ} (h:In b):iG b=some (RW b):=by
 unfold iG FV RW;rw[rN h.size h.num,À]
 by_cases hc:Ġ b=0
 ·rw[Ð (by simp[ine,hc]),aeL ((ś b).1 hc),À,if_neg (show ¬(Ġ b≠0) from fun h=>h hc)]
 ·rw[Ú (by simp[ine,hc]),if_pos hc]
def L2 (b:Ĕ) (g:Int) (ds:List Int):Int:=if Ġ b≠0 then Ġ b else if ds.any (fun d=>!IE d) then 1 else if (lR (k:=tI) (v:=Ö) g (œ b)).isNone then 5 else 0
def adS {b:Ĕ} (h:In b) (g:Int) {ds:List Int} (hd:ds.length≤1000):Er b g ds=some (L2 b g ds):=by
 unfold Er KT L2;rw[rN h.size h.num,À]
 by_cases hc:Ġ b=0
 ·rw[Ð (by simp[ine,hc]),if_neg (show ¬(Ġ b≠0) from fun h=>h hc)]
  have last:(Ä (Ł b) fun r9=>Mh (k:=tI) (v:=Ö) g r9 (fun y10=>some (0:Int)) (some (5:Int)))=some (if (lR (k:=tI) (v:=Ö) g (œ b)).isNone then 5 else 0):=by
   rw[EQ h.size.gauges,À];unfold Mh
   cases lR (k:=tI) (v:=Ö) g (œ b)<;>rfl
  refine eN (ľ ds (fun d=>!IE d) (fun z5=>ifb (ige z5 (0:Int)) (some (1:Int)) (Ä (Ł b) fun r6=>Mh (k:=tI) (v:=Ö) g r6 (fun y7=>some (0:Int)) (some (5:Int)))) (some 1) (some (if (lR (k:=tI) (v:=Ö) g (œ b)).isNone then 5 else 0)) (fun j=>?_) (fun i d hi hdi kn=>?_) (fun kn=>?_)) ?_
  ·rw[Ú (by simp[ige])]
  ·try dsimp only
   unfold rt;rw[Ï hi,È hdi,Iq,À,Ë hi (by omega),Ċ]
  ·try dsimp only
   unfold rt;rw[Ý,last]
  ·cases ds.any (fun d=>!IE d)<;>rfl
 ·rw[Ú (by simp[ine,hc]),if_pos hc]
section
variable {b:Ĕ}
def agZ:off b b.2.1.length=(Ò b).length:=by unfold off Ò; rw[List.take_length]
def aeG:∀n,n≤b.2.1.length→∀j,j<off b n→∃(i:Nat) (g:Ā) (k:Nat),b.2.1[i]?=some g∧k<(ä b g).length∧j=off b i+k:=by
 intro n
 induction n with
 |zero=>intro _ j hj; simp[off] at hj
 |succ n ih =>
  intro hn j hj;have hg:b.2.1[n]?=some b.2.1[n]:=cG (by omega);rw[aeF hg] at hj
  by_cases h:j<off b n
  ·exact ih (by omega) j h
  ·exact⟨n,_,j-off b n,hg,by omega,by omega⟩
def Oi {v:Int} (h0:1≤v) (h1:v<((Ò b).length+1:Nat)):∃(i:Nat) (g:Ā) (k:Nat),b.2.1[i]?=some g∧k<(ä b g).length∧v=(off b i:Int)+k+1:=by
 obtain⟨i,g,k,h2,h3,h4⟩:=aeG (b:=b) b.2.1.length (cH _) (v-1).toNat (by rw[agZ]; omega);exact⟨i,g,k,h2,h3,by omega⟩
def GL (b:Ĕ) (L:List Lk):Prop:=∀(i:Nat) (g:Ā),b.2.1[i]?=some g→∀l∈Ő b g,l∈L
def YL:GL b (i6 b):=fun i g hg l hl=>oV.2 (.inl ⟨i,g,hg,hl⟩)
def agB {L:List Lk} (h:Ξ b) (hL:GL b L) {v:Int} (h0:0≤v) (h1:v<((Ò b).length+1:Nat)):∃vs d,Wl L (fun u=>u=0) vs v d∧d≤4503599627370496:=by
 by_cases hv:v=0
 ·exact⟨[],0,.nil hv,by omega⟩
 obtain⟨i,g,k,hg,hk,rfl⟩:=Oi (by omega) h1;have hr:=h.gaugeR (cP hg);have r1:=hr.2.2.2.2.2.1;have r2:=hr.2.2.2.2.2.2.1
 have key:∀k:Nat,k<(ä b g).length→∃vs,Wl L (fun u=>u=0) vs ((off b i:Int)+k+1) (g.2.2.1+g.2.2.2.1.2):=by
  intro k
  induction k with
  |zero =>
   intro _;have hw:Wl L (fun u=>u=0) [0] ((off b i:Int)+1) (0+(g.2.2.1+g.2.2.2.1.2)):=Wl.step (.nil rfl) (hL i g hg _ ((Ľ h hg).2 (.inl rfl)));rw[Int.zero_add] at hw;exact⟨[0],by simpa using hw⟩
  |succ k ih =>
   intro hk;obtain⟨vs,hw⟩:=ih (by omega);have hw':=Wl.step hw (hL i g hg _ ((Ľ h hg).2 (.inr (.inr ⟨k,_,_,cG (show k<_ by omega),cG hk,.inl rfl⟩))));rw[gG] at hw'
   have e:(off b i:Int)+((k+1:Nat):Int)+1=(off b i:Int)+k+2:=by push_cast; omega
   exact⟨_,by rw[e]; exact hw'⟩
 obtain⟨vs,hw⟩:=key k hk;exact⟨vs,_,hw,by omega⟩
def abe {L:List Lk} (h:Ξ b) (hL:GL b L) {v:Int} (h0:0≤v) (h1:v<((Ò b).length+1:Nat)):∃vs d,Wl L (fun u=>u=v) vs 0 d∧d≤4503599627370496:=by
 by_cases hv:v=0
 ·exact⟨[],0,.nil hv.symm,by omega⟩
 obtain⟨i,g,k,hg,hk,rfl⟩:=Oi (by omega) h1;have hgm:=cP hg;have hr:=h.gaugeR hgm;have r1:=hr.2.2.2.2.2.1;have r2:=hr.2.2.2.2.2.2.1;have hd:=Rz h hgm
 have key:∀m:Nat,m≤k→∃vs d,Wl L (fun u=>u=(off b i:Int)+k+1) vs ((off b i:Int)+(k-m:Nat)+1) d∧d≤m*(12*(20001*1048576)+40*1048576):=by
  intro m
  induction m with
  |zero=>intro _; exact⟨[],0,.nil (by simp),by simp⟩
  |succ m ih =>
   intro hm;obtain⟨vs,d,hw,hd⟩:=ih (by omega)
   have e1:((k-m:Nat):Int)=((k-(m+1):Nat):Int)+1:=by omega
   have hl:(((off b i:Int)+(k-(m+1):Nat)+2,(off b i:Int)+(k-(m+1):Nat)+1,lm b g ((ä b g)[k-(m+1)]'(by omega)) ((ä b g)[k-(m+1)+1]'(by omega))):Lk)∈L :=
    hL i g hg _ ((Ľ h hg).2 (.inr (.inr ⟨k-(m+1),_,_,cG (by omega),cG (by omega),.inr rfl⟩)))
   have hb:=vp h hgm (f:=(ä b g)[k-(m+1)]'(by omega)) (t:=(ä b g)[k-(m+1)+1]'(by omega)) (h.day hgm (fj _)).2.1
   have e2:(off b i:Int)+(k-m:Nat)+1=(off b i:Int)+(k-(m+1):Nat)+2:=by omega
   rw[e2] at hw;exact⟨_,_,.step hw hl,by push_cast; omega⟩
 obtain⟨vs,d,hw,hdb⟩:=key k (cH _)
 have e:(off b i:Int)+(k-k:Nat)+1=(off b i:Int)+1:=by omega
 rw[e] at hw;have hw':=Wl.step hw (hL i g hg _ ((Ľ h hg).2 (.inr (.inl rfl))));exact⟨_,_,hw',by omega⟩
end
structure Xx (L:List Lk) (N:Nat):Prop where
 to:∀v:Int,0≤v→v<N→∃vs d,Wl L (fun u=>u=0) vs v d∧d≤4503599627370496
 from':∀v:Int,0≤v→v<N→∃vs d,Wl L (fun u=>u=v) vs 0 d∧d≤4503599627370496
def Ξ.tied {b:Ĕ} (h:Ξ b):Xx (i6 b) ((Ò b).length+1):=⟨fun v h0 h1=>agB h YL h0 h1,fun v h0 h1=>abe h YL h0 h1⟩
section
variable {L:List Lk} {N:Nat}
def af1 {L:List Lk} {s:Int} {vs:List Int} {v d:Int}:Wl L (fun v=>ad5 s v=true) vs v d↔Wl L (fun u=>u=s) vs v d :=
 ⟨fun h=>h.mono fun u hu=>by simpa[ad5] using hu,fun h=>h.mono fun u hu=>by simpa[ad5] using hu⟩
def LY (s:Int):(yr L N s).length=N:=by unfold yr; rw[ţ,č]
end
def GB (b:Ĕ) (id day:Int):Int:=match ö b id with|some g=>if day<g.2.1 then 4 else 0|none=>5
def VD {b:Ĕ} (hi:b.2.1.Pairwise fun a b=>a.1<b.1) (id day:Int):GB b id day=mW (œ b) id day:=by
 unfold GB mW;rw[yD hi]
 cases ö b id<;>rfl
def Vq (e:Int):Option Int:=if e=0 then none else some e
def ahL (b:Ĕ) (g d:Int):Bool×Int:=if L2 b g [d]≠0 then(false,L2 b g [d]) else((lM b g d).isSome,0)
def ahK {b:Ĕ} (h:In b) (g d:Int):yZ b g d=some (ahL b g d):=by
 have hu:=h.size.loans;unfold yZ Q9 ahL;rw[adS h g (by simp),À]
 by_cases ha:L2 b g [d]=0
 ·rw[Ð (by simp[ine,ha]),adP (by omega),À,if_neg (by simpa using ha)]
  cases lM b g d<;>rfl
 ·rw[Ú (by simp[ine,ha]),if_pos ha]
end Go.Proofs.ZzM
end
