/- lemmas -/
import Derived.Test.YtdmegkgjpgcfgaaGreatMdPA
import Derived.Test.YtdmegkgjpgcfgaaGreatMdTA
set_option linter.all false
set_option linter.unusedSectionVars false
set_option linter.unusedVariables false
set_option linter.unusedSimpArgs false
noncomputable section
namespace Go.Proofs.ZzM
open Go Go.Am
abbrev Lk:Type:=Int×Int×Int
inductive Wl (L:List Lk) (S:Int→Prop):List Int→Int→Int→Prop
 |nil {v:Int}:S v→Wl L S [] v 0
 |step {vs:List Int} {u v m d:Int}:Wl L S vs u d→(u,v,m)∈L→Wl L S (u::vs) v (d+m)
def Pot (L:List Lk) (p:Int→Int):Prop:=∀u v m,(u,v,m)∈L→p v≤p u+m
def InR (L:List Lk) (N:Nat):Prop:=∀l∈L,(0≤l.1∧l.1<N)∧(0≤l.2.1∧l.2.1<N)
section
variable {L:List Lk} {S:Int→Prop} {N:Nat} {p:Int→Int}
def Wl.cut (hp:Pot L p) {vs:List Int} {v d:Int} (h:Wl L S vs v d):∀x∈vs,∃vs1 d1,Wl L S vs1 x d1∧(x::vs1) <:+ vs∧d1+(p v-p x)≤d:=by
 induction h with
 |nil h=>intro x hx; cases hx
 | @step vs u v m d hw hl ih =>
  intro x hx;have h1:=hp u v m hl;rcases cH.1 hx with rfl|hx
  ·exact⟨vs,d,hw,List.suffix_refl _,by omega⟩
  ·obtain⟨vs1,d1,g1,g2,g3⟩:=ih x hx;exact⟨vs1,d1,g1,g2.trans (List.suffix_cons _ _),by omega⟩
def Wl.simple (hp:Pot L p) {vs:List Int} {v d:Int} (h:Wl L S vs v d):∃vs' d',Wl L S vs' v d'∧d'≤d∧(v::vs').Nodup:=by
 induction h with
 |nil h=>exact⟨[],0,.nil h,dL _,by simp⟩
 | @step vs u v m d hw hl ih =>
  obtain⟨vs1,d1,g1,g2,g3⟩:=ih;have hw1:=Wl.step g1 hl
  by_cases hv:v∈u::vs1
  ·obtain⟨vs2,d2,k1,k2,k3⟩:=hw1.cut hp v hv;exact⟨vs2,d2,k1,by omega,g3.sublist k2.sublist⟩
  ·exact⟨u::vs1,d1+m,hw1,by omega,eE.2 ⟨hv,g3⟩⟩
def Wl.range (hL:InR L N) (hS:∀v,S v→0≤v∧v<N) {vs:List Int} {v d:Int} (h:Wl L S vs v d):(0≤v∧v<N)∧∀u∈vs,0≤u∧u<N:=by
 induction h with
 |nil h=>exact⟨hS _ h,fun u hu=>by cases hu⟩
 | @step vs u v m d hw hl ih =>
  refine⟨(hL _ hl).2,fun w hw'=>?_⟩;rcases cH.1 hw' with rfl|h
  ·exact ih.1
  ·exact ih.2 w h
def Yq:∀(N:Nat) (l:List Int),l.Nodup→(∀x∈l,0≤x∧x<N)→l.length≤N
 |0,l,_,h=>by
  cases l with
  |nil=>simp
  |cons a l=>have:=h a (by simp); omega
 |N+1,l,hn,h=>by
  have h1:(l.erase (N:Int)).length≤N:=Yq N _ (hn.erase _) fun x hx=>by
   have h2:=(hn.mem_erase_iff).1 hx;have:=h x h2.2;have:=h2.1;omega
  have:=List.length_erase (a:=(N:Int)) (l:=l)
  split at this<;>omega
def Wl.short (hL:InR L N) (hS:∀v,S v→0≤v∧v<N) {vs:List Int} {v d:Int} (h:Wl L S vs v d) (hn:(v::vs).Nodup):vs.length+1≤N:=by
 have:=h.range hL hS
 exact Yq N (v::vs) hn fun x hx=>by
  rcases cH.1 hx with rfl|hx
  ·exact this.1
  ·exact this.2 x hx
def Ho (f:Lk→Bool):List Lk→Int
 |[]=>0
 |l::t=>(if f l then min l.2.2 0 else 0)+Ho f t
def ab2 (f:Lk→Bool):∀L:List Lk,Ho (fun _=>true) L≤Ho f L
 |[]=>dL _
 |l::t=>by
  have:=ab2 f t;simp only[Ho,if_true]
  split<;>omega
def tW (f:Lk→Bool):∀L:List Lk,Ho f L≤0
 |[]=>dL _
 |l::t=>by
  have:=tW f t;simp only[Ho]
  split<;>omega
def YD {f:Lk→Bool} {l:Lk} (hf:f l=true):∀{L:List Lk},l∈L→Ho f L≤l.2.2
 |a::t,h=>by
  simp only[Ho];rcases cH.1 h with rfl|h
  ·have:=tW f t;rw[if_pos hf]; omega
  ·have:=YD hf h
   split<;>omega
def ab1 {f g:Lk→Bool} (h:∀l,f l=true→g l=false):∀L:List Lk,Ho (fun l=>f l||g l) L=Ho f L+Ho g L
 |[]=>rfl
 |l::t=>by
  have ih:=ab1 h t;simp only[Ho,ih]
  by_cases hf:f l=true
  ·simp[hf,h l hf]; omega
  ·have hf':f l=false:=by simpa using hf
   by_cases hg:g l=true
   ·simp[hf',hg]; omega
   ·simp[hf',hg]
def Wl.low {vs:List Int} {v d:Int} (h:Wl L S vs v d):vs.Nodup→Ho (fun l=>vs.contains l.1) L≤d:=by
 induction h with
 |nil h=>intro _; exact tW _ _
 | @step vs u v m d hw hl ih =>
  intro hn;rw[eE] at hn;have h1:=ih hn.2;have h2:Ho (fun l=>l.1==u) L≤m:=YD (f:=fun l=>l.1==u) (l:=(u,v,m)) (by simp) hl
  have h3:=ab1 (f:=fun l:Lk=>l.1==u) (g:=fun l=>vs.contains l.1) (fun l hf=>by
   simp only[beq_iff_eq] at hf;rw[hf]
   simpa using hn.1) L
  have h4:(fun l:Lk=>(u::vs).contains l.1)=fun l=>(l.1==u)||vs.contains l.1:=by funext l; rw[List.contains_cons]
  rw[h4,h3];omega
def Io (L:List Lk):Int:=Ho (fun _=>true) L
def Wl.low' (hp:Pot L p) {vs:List Int} {v d:Int} (h:Wl L S vs v d):Io L≤d:=by
 obtain⟨vs',d',h1,h2,h3⟩:=h.simple hp;have:=h1.low (List.nodup_cons.1 h3).2;have:=ab2 (fun l=>vs'.contains l.1) L;unfold Io;omega
def Wl.high {M:Int} (hM:∀l∈L,l.2.2≤M) {vs:List Int} {v d:Int} (h:Wl L S vs v d):d≤vs.length*M:=by
 induction h with
 |nil h=>simp
 | @step vs u v m d hw hl ih =>
  have:=hM _ hl;simp only[cP,gh,fY,gj];simp only at this;omega
def Wl.lowM {M:Int} (hM:∀l∈L,-M≤l.2.2) {vs:List Int} {v d:Int} (h:Wl L S vs v d) : -(vs.length*M)≤d:=by
 induction h with
 |nil h=>simp
 | @step vs u v m d hw hl ih =>
  have:=hM _ hl;simp only[cP,gh,fY,gj];simp only at this;omega
def Wl.mono {S':Int→Prop} (hS:∀v,S v→S' v) {vs:List Int} {v d:Int} (h:Wl L S vs v d):Wl L S' vs v d:=by
 induction h with
 |nil h=>exact .nil (hS _ h)
 |step hw hl ih=>exact .step ih hl
def Wl.pot (hp:Pot L p) {vs:List Int} {v d:Int} (h:Wl L S vs v d):∃s,S s∧p v-p s≤d:=by
 induction h with
 | @nil v h=>exact⟨v,h,by omega⟩
 | @step vs u v m d hw hl ih =>
  obtain⟨s,h1,h2⟩:=ih;have:=hp u v m hl;exact⟨s,h1,by omega⟩
end
abbrev Ŗ:Int:=1152921504606846976
structure aa3 (L:List Lk) (S:Int→Prop) (N:Nat) (x:Int→Int):Prop where
 att:∀v:Int,0≤v→v<N→x v≠Ŗ→∃vs,Wl L S vs v (x v)
 low:∀v vs d,Wl L S vs v d→x v≤d
 bd:∀v:Int,0≤v→v<N→x v≤Ŗ
def aa3.uniq {L:List Lk} {S:Int→Prop} {N:Nat} {x y:Int→Int} (hx:aa3 L S N x) (hy:aa3 L S N y) {v:Int} (h0:0≤v) (h1:v<N):x v=y v:=by
 have key:∀{x y:Int→Int},aa3 L S N x→aa3 L S N y→x v≤y v:=by
  intro x y hx hy
  by_cases h:y v=Ŗ
  ·rw[h]; exact hx.bd v h0 h1
  ·obtain⟨vs,hw⟩:=hy.att v h0 h1 h;exact hx.low v vs _ hw
 exact Int.le_antisymm (key hx hy) (key hy hx)
def gv (x:List Int) (v:Int):Int:=x[v.toNat]?.getD 0
def YS {x:List Int} {v:Int} (h:v.toNat<x.length):x[v.toNat]?=some (gv x v):=by
 unfold gv; rw[List.getElem?_eq_getElem h]; rfl
def rt {x:List Int} {u v:Int} (hu:0≤u) (hv:0≤v) (h:u.toNat<x.length) (y:Int):gv (x.set u.toNat y) v=if v=u then y else gv x v:=by
 unfold gv;rw[List.getElem?_set]
 by_cases hvu:v=u
 ·subst hvu; simp[h]
 ·have:¬u.toNat=v.toNat:=by omega
  simp[hvu,this]
def YT {x y:List Int} (hl:x.length=y.length) (h:∀v:Int,0≤v→v<x.length→gv x v=gv y v):x=y:=by
 refine List.ext_getElem hl fun i h1 h2=>?_;have:=h i (by omega) (by omega);unfold gv at this;simpa[h1,h2] using this
def lr (x:List Int) (l:Lk):List Int:=if gv x l.1<Ŗ∧gv x l.1+l.2.2<gv x l.2.1 then x.set l.2.1.toNat (gv x l.1+l.2.2) else x
def Hm (L:List Lk) (x:List Int):List Int:=L.foldl lr x
def kg (L:List Lk):Nat→List Int→List Int
 |0,x=>x
 |n+1,x=>kg L n (Hm L x)
def nW (x:List Int) (l:Lk):(lr x l).length=x.length:=by unfold lr; split<;>simp
def wu (L:List Lk):∀x:List Int,(Hm L x).length=x.length:=by
 induction L with
 |nil=>intro x; rfl
 |cons l t ih=>intro x; show(Hm t (lr x l)).length=_; rw[ih,nW]
def ř (L:List Lk):∀(n:Nat) (x:List Int),(kg L n x).length=x.length
 |0,x=>rfl
 |n+1,x=>by rw[kg,ř L n,wu]
def AX (L:List Lk):∀(n:Nat) (x:List Int),kg L (n+1) x=Hm L (kg L n x)
 |0,x=>rfl
 |n+1,x=>by rw[kg,AX L n]; rfl
section
variable {L0:List Lk} {S:Int→Prop} {N:Nat}
def SS {x:List Int} {l:Lk} (hl:(0≤l.1∧l.1<N)∧(0≤l.2.1∧l.2.1<N)) (hx:x.length=N) (v:Int) (hv:0≤v):gv (lr x l) v≤gv x v:=by
 unfold lr
 split
 ·rename_i h;rw[rt hl.2.1 hv (by omega)]
  split
  ·rename_i h2; subst h2; omega
  ·exact dL _
 ·exact dL _
def Cf:∀{L:List Lk},InR L N→∀{x:List Int},x.length=N→∀v,0≤v→gv (Hm L x) v≤gv x v
 |[],_,x,_,v,_=>dL _
 |l::t,hL,x,hx,v,hv=>by
  have h1:=SS (hL l (by simp)) hx v hv;have h2:=Cf (L:=t) (fun l hl=>hL l (by simp[hl])) (x:=lr x l) (by rw[nW,hx]) v hv;show gv (Hm t (lr x l)) v≤_;omega
def ET:∀{L:List Lk},InR L N→∀{x:List Int},x.length=N→∀u v m,(u,v,m)∈L→gv x u<Ŗ→gv (Hm L x) v≤gv x u+m
 |l::t,hL,x,hx,u,v,m,hm,hf=>by
  have ht:InR t N:=fun l hl=>hL l (by simp[hl])
  have hx':(lr x l).length=N:=by rw[nW,hx]
  show gv (Hm t (lr x l)) v≤_;rcases cH.1 hm with rfl|hm
  ·have hl:=hL (u,v,m) (by simp);have h2:=Cf ht hx' v hl.2.1
   have h3:gv (lr x (u,v,m)) v≤gv x u+m:=by
    unfold lr
    split
    ·rw[rt hl.2.1 hl.2.1 (by simp only at hl; simp only; omega),if_pos rfl]; exact dL _
    ·rename_i h; simp only[not_and,Int.not_lt] at h; exact h hf
   omega
  ·have hl:=hL (u,v,m) (by simp[hm]);have h1:=SS (hL l (by simp)) hx u hl.1.1;have:=ET ht hx' u v m hm (by omega);omega
def Att (L0:List Lk) (S:Int→Prop) (N:Nat) (x:List Int):Prop:=∀v:Int,0≤v→v<N→gv x v<Ŗ→∃vs,Wl L0 S vs v (gv x v)
def ZT {x:List Int} {l:Lk} (hl:(0≤l.1∧l.1<N)∧(0≤l.2.1∧l.2.1<N)) (hm:l∈L0) (hx:x.length=N) (h:Att L0 S N x):Att L0 S N (lr x l):=by
 unfold lr
 split
 ·rename_i hc;intro v h0 h1 hf;rw[rt hl.2.1 h0 (by omega)] at hf ⊢
  split
  ·rename_i h2;obtain⟨vs,hw⟩:=h l.1 hl.1.1 hl.1.2 hc.1;exact⟨_,h2▸Wl.step hw hm⟩
  ·rename_i h2;rw[if_neg h2] at hf;exact h v h0 h1 hf
 ·exact h
def S7:∀{L:List Lk},InR L N→(∀l∈L,l∈L0)→∀{x:List Int},x.length=N→Att L0 S N x→Att L0 S N (Hm L x)
 |[],_,_,_,_,h=>h
 |l::t,hL,hsub,x,hx,h=>S7 (L:=t) (fun l hl=>hL l (by simp[hl])) (fun l hl=>hsub l (by simp[hl])) (x:=lr x l) (by rw[nW,hx]) (ZT (hL l (by simp)) (hsub l (by simp)) hx h)
def Oi (hL:InR L0 N):∀(n:Nat) {x:List Int},x.length=N→Att L0 S N x→Att L0 S N (kg L0 n x)
 |0,_,_,h=>h
 |n+1,x,hx,h=>Oi hL n (by rw[wu,hx]) (S7 hL (fun _ h=>h) hx h)
def Ce (hL:InR L0 N):∀(n:Nat) {x:List Int},x.length=N→∀v,0≤v→gv (kg L0 n x) v≤gv x v
 |0,_,_,_,_=>dL _
 |n+1,x,hx,v,hv=>Int.le_trans (Ce hL n (by rw[wu,hx]) v hv) (Cf hL hx v hv)
def tS (S:Int→Bool) (N:Nat):List Int:=(List.range N).map fun(i:Nat)=>if S i then 0 else Ŗ
def iu (S:Int→Bool) {N:Nat} {v:Int} (h0:0≤v) (h1:v<N):gv (tS S N) v=if S v then 0 else Ŗ:=by
 unfold gv tS
 have:v.toNat<N:=by omega
 rw[eA,fS this];simp only[dB,gG];rw[Int.toNat_of_nonneg h0]
def ċ (S:Int→Bool) (N:Nat):(tS S N).length=N:=by simp[tS]
end
def ES {L:List Lk} {S:Int→Bool} {N:Nat} {M:Int} (hL:InR L N) (hS:∀v,S v=true→0≤v∧v<N) (hM:∀l∈L,l.2.2≤M):∀(n:Nat),n*M<Ŗ→0≤M→∀vs v d,Wl L (fun v=>S v=true) vs v d→vs.length≤n→gv (kg L n (tS S N)) v≤d
 |0,_,_,vs,v,d,hw,hl=>by
  cases hw with
  |nil h =>
   have:=hS v h;rw[kg,iu S this.1 this.2,if_pos h]; exact dL _
  |step=>simp at hl
 |n+1,hn,hM0,vs,v,d,hw,hl=>by
  have hn':n*M<Ŗ:=by rw[gh,fY,gj] at hn; omega
  have hlen:(kg L n (tS S N)).length=N:=by rw[ř,ċ]
  rw[AX]
  cases hw with
  |nil h =>
   have h1:=Cf hL hlen v (hS v h).1;have h2:=ES hL hS hM n hn' hM0 [] v 0 (.nil h) (by simp);omega
  | @step vs u _ m d hw hlk =>
   have h2:=ES hL hS hM n hn' hM0 vs u d hw (by simpa using hl);have h3:=hw.high hM;have h4:(vs.length:Int)*M≤n*M:=fh (by simp at hl; omega) hM0;have:=ET hL hlen u v m hlk (by omega);omega
def Ja {L:List Lk} {S:Int→Bool} {N:Nat} {M:Int} {p:Int→Int} (hp:Pot L p) (hL:InR L N) (hS:∀v,S v=true→0≤v∧v<N) (hM:∀l∈L,l.2.2≤M) (hM0:0≤M) (hN:N*M<Ŗ) (n:Nat) (hn:N≤n+1):aa3 L (fun v=>S v=true) N (gv (kg L n (tS S N))):=by
 have hatt:Att L (fun v=>S v=true) N (tS S N):=fun v h0 h1 hf=>by
  rw[iu S h0 h1] at hf ⊢
  split
  ·rename_i h; exact⟨[],.nil h⟩
  ·rename_i h; rw[if_neg h] at hf; omega
 have hbd:∀v:Int,0≤v→v<N→gv (kg L n (tS S N)) v≤Ŗ:=fun v h0 h1=>by
  have:=Ce hL n (ċ S N) v h0;rw[iu S h0 h1] at this
  have hF:(0:Int)≤Ŗ:=by decide
  split at this<;>omega
 have hlow:∀(n:Nat),N≤n+1→∀v vs d,Wl L (fun v=>S v=true) vs v d→gv (kg L n (tS S N)) v≤d:=by
  intro n hn v vs d hw;obtain⟨vs',d',h1,h2,h3⟩:=hw.simple hp;have h4:=h1.short hL hS h3
  have hpos:0<N:=by omega
  obtain⟨k,rfl⟩:∃k,N=k+1:=⟨N-1,by omega⟩
  have hk:(k:Int)*M<Ŗ:=by rw[gh,fY,gj] at hN; omega
  have h5:=ES hL hS hM k hk hM0 vs' v d' h1 (by omega);obtain⟨j,rfl⟩:∃j,n=k+j:=⟨n-k,by omega⟩
  have h6:∀(j:Nat),gv (kg L (k+j) (tS S (k+1))) v≤gv (kg L k (tS S (k+1))) v:=by
   intro j
   induction j with
   |zero=>exact dL _
   |succ j ih =>
    rw[←Nat.add_assoc,AX];have:=Cf hL (x:=kg L (k+j) (tS S (k+1))) (by rw[ř,ċ]) v (h1.range hL hS).1.1;omega
  have:=h6 j;omega
 exact⟨fun v h0 h1 hne=>Oi hL n (ċ S N) hatt v h0 h1 (by have:=hbd v h0 h1; omega),hlow n hn,hbd⟩
def aa3.pot {L:List Lk} {S:Int→Prop} {N:Nat} {x:Int→Int} (h:aa3 L S N x) (hL:InR L N) {u v m:Int} (hl:(u,v,m)∈L) (hf:x u≠Ŗ):x v≤x u+m:=by
 obtain⟨vs,hw⟩:=h.att u (hL _ hl).1.1 (hL _ hl).1.2 hf;exact h.low v _ _ (.step hw hl)
section
variable {α:Type} (key:α→Int)
def Srt (l:List α):Prop:=l.Pairwise fun x y=>key x≤key y
def Stb (l s:List α):Prop:=∀k:Int,s.filter (fun x=>key x==k)=l.filter (fun x=>key x==k)
variable {key}
def Stb.refl (l:List α):Stb key l l:=fun _=>rfl
def Stb.symm {l s:List α} (h:Stb key l s):Stb key s l:=fun k=>(h k).symm
def Stb.trans {l s t:List α} (h:Stb key l s) (h2:Stb key s t):Stb key l t:=fun k=>(h2 k).trans (h k)
def Stb.append {l s l' s':List α} (h:Stb key l s) (h2:Stb key l' s'):Stb key (l++l') (s++s'):=fun k=>by
 rw[eN,eN,h k,h2 k]
def Stb.mem {l s:List α} (h:Stb key l s) {x:α}:x∈s↔x∈l:=by
 have:=h (key x);constructor
 ·intro hx;have:x∈s.filter fun y=>key y==key x:=dS.2 ⟨hx,by simp⟩;rw[h] at this;exact(dS.1 this).1
 ·intro hx;have:x∈l.filter fun y=>key y==key x:=dS.2 ⟨hx,by simp⟩;rw[←h] at this;exact(dS.1 this).1
def Stb.swap {u v:List α} (h:∀x∈u,∀y∈v,key x≠key y):Stb key (u++v) (v++u):=fun k=>by
 rw[eN,eN]
 by_cases hu:∃x∈u,key x=k
 ·obtain⟨x,hx,rfl⟩:=hu
  have:v.filter (fun y=>key y==key x)=[]:=gF.2 fun y hy=>by
   have:=h x hx y hy;simp; omega
  rw[this]; simp
 ·have:u.filter (fun y=>key y==k)=[]:=gF.2 fun y hy=>by
   simp;exact fun e=>hu ⟨y,hy,e⟩
  rw[this]; simp
def Stb.uniq:∀{s t:List α},Srt key s→Srt key t→Stb key s t→s=t
 |[],[],_,_,_=>rfl
 |[],y::t,_,_,h=>absurd ((h.mem (x:=y)).1 (by simp)) (by simp)
 |x::s,[],_,_,h=>absurd ((h.mem (x:=x)).2 (by simp)) (by simp)
 |x::s,y::t,hs,ht,h=>by
  have h1:=dk.1 hs;have h2:=dk.1 ht
  have hk:key x=key y:=by
   have a1:key x≤key y:=by
    rcases cH.1 ((h.mem (x:=y)).1 (by simp)) with e|hm
    ·rw[e]; exact dL _
    ·exact h1.1 y hm
   have a2:key y≤key x:=by
    rcases cH.1 ((h.mem (x:=x)).2 (by simp)) with e|hm
    ·rw[e]; exact dL _
    ·exact h2.1 x hm
   omega
  have hx:x=y:=by
   have:=h (key x);have hky:(key y==key x)=true:=beq_iff_eq.2 hk.symm;have hkx:(key x==key x)=true:=beq_iff_eq.2 rfl;simp only[eo,hky,hkx,if_true] at this;exact(List.cons.inj this).1.symm
  subst hx;congr 1;refine Stb.uniq h1.2 h2.2 fun k=>?_;have:=h k
  by_cases hk:key x=k
  ·rw[List.filter_cons_of_pos (by simp[hk]),List.filter_cons_of_pos (by simp[hk])] at this;exact(List.cons.inj this).2
  ·rw[List.filter_cons_of_neg (by simp[hk]),List.filter_cons_of_neg (by simp[hk])] at this;exact this
variable (key)
def aan (x:α):List α→List α
 |[]=>[x]
 |y::l=>if key x≤key y then x::y::l else y::aan x l
def į (l:List α):List α:=l.foldr (aan key) []
variable {key}
def Rv (x:α):∀l:List α,Stb key (x::l) (aan key x l)
 |[]=>Stb.refl _
 |y::l=>by
  unfold aan
  split
  ·exact Stb.refl _
  ·rename_i h;refine Stb.trans (s:=y::x::l) ?_ fun k=>?_
   ·have:=Stb.swap (key:=key) (u:=[x]) (v:=[y]) (fun a ha b hb=>by simp at ha hb; subst ha hb; omega);exact(this.append (Stb.refl l))
   ·have:=Rv x l k;simp only[eo];rw[this];simp only[eo]
def aeX {x z:α} {l:List α}:z∈aan key x l↔z=x∨z∈l:=by
 rw[(Rv x l).mem,cH]
def YQ (x:α):∀{l:List α},Srt key l→Srt key (aan key x l)
 |[],_=>fo _ _
 |y::l,h=>by
  have h1:=List.pairwise_cons.1 h;unfold aan
  split
  ·rename_i hx;refine List.Pairwise.cons (fun z hz=>?_) h;rcases cH.1 hz with rfl|hz
   ·exact hx
   ·exact Int.le_trans hx (h1.1 z hz)
  ·rename_i hx;refine List.Pairwise.cons (fun z hz=>?_) (YQ x h1.2);rcases aeX.1 hz with rfl|hz
   ·omega
   ·exact h1.1 z hz
def ic:∀l:List α,Srt key (į key l)
 |[]=>List.Pairwise.nil
 |x::l=>YQ x (ic l)
def Ķ:∀l:List α,Stb key l (į key l)
 |[]=>Stb.refl _
 |x::l=>by
  have:Stb key (x::l) (x::į key l):=(Stb.refl [x]).append (Ķ l);exact this.trans (Rv x _)
def uY {l s:List α} (h:Srt key s) (h2:Stb key l s):į key l=s:=Stb.uniq (ic l) h ((Ķ l).symm.trans h2)
def Stb.perm {l s:List α} [DecidableEq α] (h:Stb key l s):s.Perm l:=by
 rw[List.perm_iff_count];intro x
 have e:∀l:List α,l.count x=(l.filter fun y=>key y==key x).count x:=fun l=>by
  rw[List.count_filter];simp
 rw[e s,e l,h]
def Stb.length {l s:List α} (h:Stb key l s):s.length=l.length:=by
 classical
 exact h.perm.length_eq
def Srt.append {l s:List α} (h:Srt key l) (h2:Srt key s) (h3:∀x∈l,∀y∈s,key x≤key y):Srt key (l++s):=fK.2 ⟨h,h2,h3⟩
def Srt.parts {l s:List α} (h:Srt key (l++s)):Srt key l∧Srt key s∧∀x∈l,∀y∈s,key x≤key y:=fK.1 h
end
abbrev Way:=List (List Int)
abbrev ő:=Val Â
def đ (m:ő) (x:Way):Int:=(ĥ m x).getD 0
def WOk (m:ő) (l:List Way):Prop:=∀x∈l,ĥ m x=some (đ m x)
section
variable {ρ:Type} {m:ő}
def ade (a b:Int):υ a b=some (if a<b then -1 else if b<a then 1 else 0):=by
 unfold υ lX kM pw
 have e:∀x:Int,ine x x=false:=fun x=>by simp[ine]
 rw[e,e,À,À,é,é]
 by_cases h:a<b
 ·rw[Ù (decide_eq_true h),if_pos h]
 ·rw[Ì (decide_eq_false h),if_neg h]
  by_cases h2:b<a
  ·rw[Ù (decide_eq_true h2),if_pos h2]
  ·rw[Ì (decide_eq_false h2),if_neg h2]
def Sr {x y:Way} (hx:ĥ m x=some (đ m x)) (hy:ĥ m y=some (đ m y)):i8 x y m=some (if đ m x<đ m y then -1 else if đ m y<đ m x then 1 else 0):=by
 unfold i8 Fe;rw[hx,À,hy,À,ade,À]
def YL {x y:Way} (hx:ĥ m x=some (đ m x)) (hy:ĥ m y=some (đ m y)) (X Y:Option ρ):(Ã (i8 x y m) fun r=>ifb (ilt r (0:Int)) X Y)=if đ m x<đ m y then X else Y:=by
 rw[Sr hx hy,À]
 by_cases h:đ m x<đ m y
 ·rw[if_pos h,if_pos h]; rfl
 ·rw[if_neg h,if_neg h]
  by_cases h2:đ m y<đ m x
  ·rw[if_pos h2]; rfl
  ·rw[if_neg h2]; rfl
def agX {α:Type} (A:List α) (x:α) (B:List α):(A++x::B)[A.length]?=some x:=by simp
def agx {α:Type} (A:List α) (x y:α) (B:List α):(A++x::B).set A.length y=A++y::B:=by simp
def iq {α:Type} {l A B:List α} {x:α} {i:Int} (h:l=A++x::B) (hi:i=A.length) (K:α→Option ρ):(è ((ile (0:Int) i)&&(ilt i (ñ l))) (Ľ l (Int.toNat i) K))=K x:=by
 subst h hi;rw[Đ (by simp[ile,ilt,ñ]; omega),cQ,iV (agX A x B)]
def GB {α:Type} {l A B:List α} {x:α} {i:Int} (h:l=A++x::B) (hi:i=A.length) (y:α):List.set l (Int.toNat i) y=A++y::B:=by
 subst h hi;rw[cQ,agx]
def ins_L1 {c0:Int} {A C:List Way} {x y:Way} (hx:ĥ m x=some (đ m x)) (hy:ĥ m y=some (đ m y)) (hc:c0≤A.length) (hl:A.length≤1000000) (kn:Int→List Way→Option ρ) (k0:List Way→Option ρ) :
 ä c0 m.1.1.1 m.1.1.2 m.1.2.1 m.1.2.2.1 m.1.2.2.2.1 m.1.2.2.2.2.1 m.1.2.2.2.2.2 m.2 ((A.length:Int)+1) (A++y::x::C) kn k0 =
  if đ m x<đ m y then kn A.length (A++x::y::C) else k0 (A++y::x::C):=by
 have e1:((A.length:Int)+1-1)=A.length:=by omega
 have s1:A++y::x::C=(A++[y])++x::C:=by simp
 have l1:((A.length:Int)+1)=(A++[y]).length:=by simp
 unfold ä;rw[Ù (decide_eq_true (by omega)),iq s1 l1,e1,Ó (by omega) (by omega),iq (A:=A) (x:=y) (B:=x::C) rfl rfl];refine(YL hx hy _ _).trans ?_
 split
 ·rw[Ó (by omega) (by omega),Ó (by omega) (by omega),iq (A:=A) (x:=y) (B:=x::C) rfl rfl,iq s1 l1,iq s1 l1,GB s1 l1]
  have s2:A++[y]++y::C=A++y::y::C:=by simp
  rw[s2,iq (A:=A) (x:=y) (B:=y::C) rfl rfl,GB (A:=A) (x:=y) (B:=y::C) rfl rfl,Ó (by omega) (by omega)]
 ·rfl
def aeW {c0:Int} {P S Q:List Way} {x:Way} (hP:c0=P.length) (hS:Srt (đ m) S) (hW:WOk m (x::S)) (hl:P.length+S.length≤1000000) (K:List Way→Option ρ) :
 Ê (fun(v:Int×List Way) kk=>ä c0 m.1.1.1 m.1.1.2 m.1.2.1 m.1.2.2.1 m.1.2.2.2.1 m.1.2.2.2.2.1 m.1.2.2.2.2.2 m.2 v.1 v.2 (fun a b=>kk (a,b)) K) (((P.length+S.length:Nat):Int),P++(S++x::Q))=K (P++(į (đ m) (S++[x])++Q)):=by
 subst hP;have hxW:=hW x (by simp)
 -- when it stops
 have stop:∀A B:List Way,S=A++B→(∀t∈B,đ m x<đ m t)→(∀t∈A,đ m t≤đ m x)→į (đ m) (S++[x])=A++x::B:=fun A B hAB hB hA=>by
  subst hAB;obtain⟨h1,h2,h3⟩:=hS.parts;refine uY ?_ ?_
  ·refine h1.append (List.Pairwise.cons (fun t ht=>by have:=hB t ht; omega) h2) fun a ha b hb=>?_;rcases cH.1 hb with rfl|hb
   ·exact hA a ha
   ·exact h3 a ha b hb
  ·have:=Stb.swap (key:=đ m) (u:=B) (v:=[x]) (fun a ha b hb=>by simp at hb; subst hb; have:=hB a ha; omega);have h4:=(Stb.refl (key:=đ m) A).append this;rw[←cN] at h4;exact h4
 refine Ę (fun v:Int×List Way=>∃A B:List Way,S=A++B∧(∀t∈B,đ m x<đ m t)∧v=(((P.length+A.length:Nat):Int),P++(A++x::(B++Q)))) (fun v=>v.1.toNat) ?_ ⟨S,[],by simp,by simp,by simp⟩;rintro v ⟨A,B,hAB,hB,rfl⟩
 cases hA:A.reverse with
 |nil =>
  have hA0:A=[]:=by simpa using hA
  subst hA0;refine .inl fun kn=>?_;dsimp only;unfold ä;rw[Ì (decide_eq_false (by simp)),stop [] B hAB hB (by simp)];simp
 |cons y A' =>
  have hA0:A=A'.reverse++[y]:=by
   have:=congrArg List.reverse hA;simpa using this
  generalize A'.reverse=A1 at hA0;subst hA0;have hyW:ĥ m y=some (đ m y):=hW y (by rw[hAB]; simp)
  have hstep:∀kn:Int×List Way→Option ρ,ä (P.length:Int) m.1.1.1 m.1.1.2 m.1.2.1 m.1.2.2.1 m.1.2.2.2.1 m.1.2.2.2.2.1 m.1.2.2.2.2.2 m.2 ((P.length+(A1++[y]).length:Nat):Int) (P++(A1++[y]++x::(B++Q))) (fun a b=>kn (a,b)) K =
   if đ m x<đ m y then kn (((P.length+A1.length:Nat):Int),P++(A1++x::(y::B++Q))) else K (P++(A1++[y]++x::(B++Q))):=fun kn=>by
   have e1:((P.length+(A1++[y]).length:Nat):Int)=((P++A1).length:Int)+1:=by simp; omega
   have e2:P++(A1++[y]++x::(B++Q))=(P++A1)++y::x::(B++Q):=by simp
   have hlen:A1.length≤S.length:=by rw[hAB]; simp
   rw[e1,e2,ins_L1 hxW hyW (by simp; omega) (by simp; omega)];simp
  by_cases hxy:đ m x<đ m y
  ·refine .inr ⟨(((P.length+A1.length:Nat):Int),P++(A1++x::(y::B++Q))),⟨A1,y::B,by rw[hAB]; simp,fun t ht=>?_,rfl⟩,by simp; omega,fun kn=>(hstep kn).trans (if_pos hxy)⟩;rcases cH.1 ht with rfl|ht
   ·exact hxy
   ·exact hB t ht
  ·refine .inl fun kn=>(hstep kn).trans ?_;rw[if_neg hxy,stop (A1++[y]) B hAB hB fun t ht=>?_]
   ·simp
   ·obtain⟨h1,_,_⟩:=Srt.parts (hAB▸hS);obtain⟨_,_,h3⟩:=Srt.parts h1;rcases cG.1 ht with ht|ht
    ·have:=h3 t ht y (by simp); omega
    ·simp at ht; subst ht; omega
def WOk.sub {l s:List Way} (h:WOk m l) (hs:∀x∈s,x∈l):WOk m s:=fun x hx=>h x (hs x hx)
def G7 {P M Q:List Way} (hW:WOk m M) (hl:P.length+M.length≤1000000):ã (P++(M++Q)) P.length ((P.length+M.length:Nat):Int) m=some (P++(į (đ m) M++Q),m):=by
 unfold ã ş;rw[Ó (by omega) (by omega)];refine Ę (fun v:Int×List Way=>(M.length=0∧v=((P.length:Int)+1,P++(M++Q)))∨∃k:Nat,1≤k∧k≤M.length∧v=(((P.length+k:Nat):Int),P++(į (đ m) (M.take k)++(M.drop k++Q)))) (fun v=>(P.length+M.length+1)-v.1.toNat) ?_ ?_
 ·rintro v (⟨h0,rfl⟩|⟨k,hk1,hk2,rfl⟩)
  ·refine .inl fun kn=>?_;have:M=[]:=List.length_eq_zero_iff.1 h0;subst this;dsimp only;unfold ć;rw[Ì (decide_eq_false (by simp; omega))];rfl
  ·rcases fW hk2 with h|rfl
   ·have hg:M[k]?=some M[k]:=cA h;have hd:M.drop k=M[k]::M.drop (k+1):=dv h;have ht:M.take (k+1)=M.take k++[M[k]]:=take_succ hg;have hmem:M[k]∈M:=eT h;generalize M[k]=x at hg hd ht hmem
    have hlk:(į (đ m) (M.take k)).length=k:=by rw[(Ķ _).length]; simp; omega
    refine .inr ⟨(((P.length+(k+1):Nat):Int),P++(į (đ m) (M.take (k+1))++(M.drop (k+1)++Q))),.inr ⟨k+1,by omega,h,rfl⟩,by dsimp only; omega,fun kn=>?_⟩;dsimp only;unfold ć;rw[Ù (decide_eq_true (by omega)),hd]
    have:=aeW (m:=m) (c0:=(P.length:Int)) (P:=P) (S:=į (đ m) (M.take k)) (Q:=M.drop (k+1)++Q) (x:=x) rfl (ic _) (fun y hy=>by
     rcases cH.1 hy with rfl|hy
     ·exact hW _ hmem
     ·exact hW _ (fL ((Ķ _).mem.1 hy))) (by omega) (fun z13=>ck (((P.length+k:Nat):Int)+(1:Int)) fun n14=>kn (n14,z13))
    rw[hlk] at this;refine this.trans ?_;rw[Ó (by omega) (by omega)];congr 1;refine Prod.ext (by dsimp only; omega) ?_;dsimp only
    have e:į (đ m) (į (đ m) (M.take k)++[x])=į (đ m) (M.take (k+1)):=by
     rw[ht];exact uY (ic _) (((Ķ (M.take k)).append (Stb.refl [x])).symm.trans (Ķ _))
    rw[e]
   ·refine .inl fun kn=>?_;dsimp only;unfold ć;rw[Ì (decide_eq_false (by omega))];simp
 ·cases M with
  |nil=>exact .inl ⟨rfl,rfl⟩
  |cons a M =>
   refine .inr ⟨1,cB _,by simp,?_⟩;refine Prod.ext (by simp) ?_;simp[į,aan]
end
section
variable {ρ:Type} {m:ő}
def rot_L2:@κ ρ=@Ć ρ:=rfl
def rot_L3:@ι ρ=@Ć ρ:=rfl
def tR {A U B V C:List Way} (hn:V.length=U.length) {a b n:Int} (ha:a=A.length) (hb:b=((A.length+U.length+B.length:Nat):Int)) (hnn:n=U.length) (hl:A.length+U.length+B.length+V.length≤1000000) (K:List Way→Option ρ) :
 Ê (fun(v:Int×List Way) kk=>Ć a b n v.1 v.2 (fun x y=>kk (x,y)) K) ((0:Int),A++(U++(B++(V++C))))=K (A++(V++(B++(U++C)))):=by
 subst ha hb hnn;refine ģ (List.replicate U.length ()) (fun i=>A++(V.take i++(U.drop i++(B++(U.take i++(V.drop i++C)))))) _ (by simp) (fun i x hi hx kn=>?_) (fun kn=>?_)
 ·try dsimp only
  rw[eY] at hi;have hu:U.drop i=U[i]::U.drop (i+1):=dv hi;have hv:V.drop i=V[i]::V.drop (i+1):=dv (by omega);have htu:U.take (i+1)=U.take i++[U[i]]:=take_succ (cA hi);have htv:V.take (i+1)=V.take i++[V[i]]:=take_succ (cA (by omega));generalize U[i]=u at hu htu;generalize V[i]=v at hv htv
  have lu:(U.take i).length=i:=by simp; omega
  have lv:(V.take i).length=i:=by simp; omega
  have ldu:(U.drop (i+1)).length=U.length-(i+1):=by simp
  rw[hu,hv,htu,htv];generalize U.drop (i+1)=U2 at *;generalize V.drop (i+1)=V2 at *;generalize U.take i=U1 at *;generalize V.take i=V1 at *;unfold Ć
  -- the places
  have s1:A++(V1++(u::U2++(B++(U1++(v::V2++C)))))=(A++V1)++u::(U2++(B++(U1++(v::V2++C)))):=by simp
  have s2:A++(V1++(u::U2++(B++(U1++(v::V2++C)))))=(A++(V1++(u::U2++(B++U1))))++v::(V2++C):=by simp
  have p1:(A.length:Int)+i=(A++V1).length:=by simp; omega
  have p2:((A.length+U.length+B.length:Nat):Int)+i=(A++(V1++(u::U2++(B++U1)))).length:=by simp; omega
  have s3:(A++V1)++v::(U2++(B++(U1++(v::V2++C))))=(A++(V1++(v::U2++(B++U1))))++v::(V2++C):=by simp
  have p3:((A.length+U.length+B.length:Nat):Int)+i=(A++(V1++(v::U2++(B++U1)))).length:=by simp; omega
  rw[Ù (decide_eq_true (by omega)),Ó (by omega) (by omega),Ó (by omega) (by omega),Ó (by omega) (by omega),iq s2 p2,Ó (by omega) (by omega),iq s1 p1,iq s1 p1,GB s1 p1,iq s3 p3,GB s3 p3,Ó (by omega) (by omega)];simp
 ·try dsimp only
  unfold Ć;rw[List.length_replicate,Ì (decide_eq_false (by omega))];rw[List.take_of_length_le (l:=V) (by omega),List.drop_of_length_le (l:=U) (by omega),List.take_of_length_le (l:=U) (by omega),List.drop_of_length_le (l:=V) (by omega)];simp
def aby {A U V C:List Way} (hU:1≤U.length) (hV:1≤V.length) (hl:A.length+U.length+V.length≤1000000) :
 Ĭ (A++(U++(V++C))) A.length ((A.length+U.length:Nat):Int) ((A.length+U.length+V.length:Nat):Int) m=some (A++(V++(U++C)),m):=by
 unfold Ĭ iJ;rw[Ó (by omega) (by omega),Ó (by omega) (by omega)];refine Ę (fun v:Int×Int×List Way=>∃L X Y R:List Way,1≤X.length∧1≤Y.length∧L.length+X.length=U.length∧Y.length+R.length=V.length∧L++(Y++(X++R))=V++U∧v=((X.length:Int),(Y.length:Int),A++(L++(X++(Y++(R++C)))))) (fun v=>v.1.toNat+v.2.1.toNat) ?_ ⟨[],U,V,[],hU,hV,by simp,by simp,by simp,?_⟩
 rotate_left
 ·rw[Prod.mk.injEq,Prod.mk.injEq];refine⟨?_,?_,by simp⟩
  ·show((A.length+U.length:Nat):Int)-(A.length:Int)=(U.length:Int);omega
  ·show((A.length+U.length+V.length:Nat):Int)-((A.length+U.length:Nat):Int)=(V.length:Int);omega
 rintro v ⟨L,X,Y,R,hX,hY,h1,h2,h3,rfl⟩
 by_cases hxy:X.length=Y.length
 ·refine .inl fun kn=>?_;dsimp only;unfold Ī;rw[Ì (by simp[ine,hxy])];dsimp only;rw[rot_L3,Ó (by omega) (by omega)];have:=tR (A:=A++L) (U:=X) (B:=[]) (V:=Y) (C:=R++C) hxy.symm (a:=((A.length+U.length:Nat):Int)-X.length) (b:=((A.length+U.length:Nat):Int)) (n:=X.length) (by simp; omega) (by simp; omega) rfl (by simp; omega) (fun z48=>some (z48,m))
  have e1:(A++L)++(X++([]++(Y++(R++C))))=A++(L++(X++(Y++(R++C)))):=by simp
  rw[e1] at this;refine this.trans ?_
  have e2:A++L++(Y++([]++(X++(R++C))))=A++((L++(Y++(X++R)))++C):=by simp
  rw[e2,h3];simp
 ·by_cases hgt:Y.length<X.length
  ·-- the first part of X and Y change places
   have l1:(X.take Y.length).length=Y.length:=by simp; omega
   have l2:(X.drop Y.length).length=X.length-Y.length:=by simp
   have ex:X=X.take Y.length++X.drop Y.length:=(dM _ _).symm;generalize X.take Y.length=X1 at l1 ex;generalize X.drop Y.length=X2 at l2 ex;subst ex;refine .inr ⟨((X2.length:Int),(X1.length:Int),A++((L++Y)++(X2++(X1++(R++C))))),⟨L++Y,X2,X1,R,by simp at l2 hgt; omega,by omega,by simp at h1 ⊢; omega,by omega,?_,rfl⟩,by simp at l2 ⊢; omega,fun kn=>?_⟩
   ·rw[←h3]; simp
   ·dsimp only;unfold Ī;have hg1:ine ((X1++X2).length:Int) (Y.length:Int)=true:=bne_iff_ne.2 (by omega);rw[Ù hg1,Ù (decide_eq_true (by omega)),Ó (by simp at h1 ⊢; omega) (by simp at h1 ⊢; omega)];have:=tR (A:=A++L) (U:=X1) (B:=X2) (V:=Y) (C:=R++C) l1.symm (a:=((A.length+U.length:Nat):Int)-(X1++X2).length) (b:=((A.length+U.length:Nat):Int)) (n:=Y.length) (by simp at h1 ⊢; omega) (by simp at h1 ⊢; omega) (by omega) (by simp at h1 ⊢; omega) (fun z13=>ck (((X1++X2).length:Int)-(Y.length:Int)) fun n14=>kn (n14,((Y.length:Int),z13)))
    have e1:(A++L)++(X1++(X2++(Y++(R++C))))=A++(L++(X1++X2++(Y++(R++C)))):=by simp
    rw[e1] at this;refine this.trans ?_;rw[Ó (by simp; omega) (by simp; omega)];congr 1;rw[Prod.mk.injEq,Prod.mk.injEq];exact⟨by simp; omega,by omega,by simp⟩
  ·have l1:(Y.drop (Y.length-X.length)).length=X.length:=by simp; omega
   have l2:(Y.take (Y.length-X.length)).length=Y.length-X.length:=by simp
   have ey:Y=Y.take (Y.length-X.length)++Y.drop (Y.length-X.length):=(dM _ _).symm;generalize Y.take (Y.length-X.length)=Y1 at l2 ey;generalize Y.drop (Y.length-X.length)=Y2 at l1 ey;subst ey;refine .inr ⟨((Y2.length:Int),(Y1.length:Int),A++(L++(Y2++(Y1++((X++R)++C))))),⟨L,Y2,Y1,X++R,by omega,by simp at l2 hxy hgt; omega,by omega,by simp at h2 ⊢; omega,?_,rfl⟩,by simp at l2 ⊢; omega,fun kn=>?_⟩
   ·rw[←h3]; simp
   ·dsimp only;unfold Ī;have hg1:ine (X.length:Int) ((Y1++Y2).length:Int)=true:=bne_iff_ne.2 (by omega);rw[Ù hg1,Ì (decide_eq_false (by omega)),rot_L2,Ó (by omega) (by omega),Ó (by simp at h2 ⊢; omega) (by simp at h2 ⊢; omega),Ó (by simp at h2 ⊢; omega) (by simp at h2 ⊢; omega)];have:=tR (A:=A++L) (U:=X) (B:=Y1) (V:=Y2) (C:=R++C) l1 (a:=((A.length+U.length:Nat):Int)-X.length) (b:=((A.length+U.length:Nat):Int)+((Y1++Y2).length:Int)-X.length) (n:=X.length) (by simp; omega) (by simp; omega) rfl (by simp at h2 ⊢; omega) (fun z31=>ck (((Y1++Y2).length:Int)-(X.length:Int)) fun n32=>kn ((X.length:Int),(n32,z31)))
    have e1:(A++L)++(X++(Y1++(Y2++(R++C))))=A++(L++(X++(Y1++Y2++(R++C)))):=by simp
    rw[e1] at this;refine this.trans ?_;rw[Ó (by simp; omega) (by simp; omega)];congr 1;rw[Prod.mk.injEq,Prod.mk.injEq];exact⟨by omega,by simp; omega,by simp⟩
end
def agW {n:Nat} (h:n≤10000000):IntKind.wrap .i64 (gP .u64 (IntKind.wrap .u64 (n:Int)) (1:Int))=((n / 2:Nat):Int):=by
 have e1:IntKind.wrap .u64 (n:Int)=n:=by
  simp[IntKind.wrap,IntKind.bits,IntKind.signed];omega
 rw[e1]
 have e2:gP .u64 (n:Int) 1=((n / 2:Nat):Int):=by
  unfold gP
  have:(2:Int) ^ (min (Int.toNat 1) IntKind.u64.bits)=2:=by decide
  rw[this,Int.fdiv_eq_ediv_of_nonneg _ (by omega)];omega
 rw[e2];simp[IntKind.wrap,IntKind.bits,IntKind.signed];omega
section
variable {ρ:Type} {m:ő}
abbrev ad1:=List Way→Int→Int→Int→ő→Option (List Way×ő)
def Zm (p:Nat→Prop) [DecidablePred p] {lo:Nat}:∀(n:Nat),(∀c c',lo≤c→c≤c'→c'<lo+n→p c'→p c)→∃s,lo≤s∧s≤lo+n∧(∀c,lo≤c→c<s→p c)∧∀c,s≤c→c<lo+n→¬p c
 |0,_=>⟨lo,cB _,cB _,fun c h1 h2=>by omega,fun c h1 h2=>by omega⟩
 |n+1,hm=>by
  obtain⟨s,h1,h2,h3,h4⟩:=Zm p (lo:=lo) n fun c c' a1 a2 a3=>hm c c' a1 a2 (by omega)
  by_cases hp:p (lo+n)
  ·exact⟨lo+n+1,by omega,by omega,fun c q1 q2=>hm c (lo+n) q1 (by omega) (by omega) hp,fun c q1 q2=>by omega⟩
  ·refine⟨s,h1,by omega,h3,fun c q1 q2=>?_⟩
   by_cases e:c=lo+n
   ·rw[e]; exact hp
   ·exact h4 c q1 (by omega)
def XI {f:Int×Int→(Int×Int→Option ρ)→Option ρ} {K:Int→Option ρ} {lo hi:Nat} (hlh:lo≤hi) (p:Nat→Prop) [DecidablePred p] (mono:∀c c',lo≤c→c≤c'→c'<hi→p c'→p c)
 (step:∀i j:Nat,lo≤i→i<j→j≤hi→∀kn,f ((i:Int),(j:Int)) kn=if p ((i+j) / 2) then kn ((((i+j) / 2+1:Nat):Int),(j:Int)) else kn ((i:Int),(((i+j) / 2:Nat):Int)))
 (stop:∀i:Nat,lo≤i→i≤hi→∀kn,f ((i:Int),(i:Int)) kn=K i) :
 ∃s,lo≤s∧s≤hi∧(∀c,lo≤c→c<s→p c)∧(∀c,s≤c→c<hi→¬p c)∧Ê f ((lo:Int),(hi:Int))=K (s:Nat):=by
 obtain⟨s,h1,h2,h3,h4⟩:=Zm p (lo:=lo) (hi-lo) fun c c' a1 a2 a3=>mono c c' a1 a2 (by omega);refine⟨s,h1,by omega,h3,fun c q1 q2=>h4 c q1 (by omega),?_⟩;refine Ę (fun v:Int×Int=>∃i j:Nat,lo≤i∧i≤s∧s≤j∧j≤hi∧v=((i:Int),(j:Int))) (fun v=>v.2.toNat-v.1.toNat) ?_ ⟨lo,hi,cB _,h1,by omega,cB _,rfl⟩;rintro v ⟨i,j,q1,q2,q3,q4,rfl⟩;rcases cX i j with h|h
 ·by_cases hp:p ((i+j) / 2)
  ·refine .inr ⟨_,⟨(i+j) / 2+1,j,by omega,?_,q3,q4,rfl⟩,by dsimp only; omega,fun kn=>by rw[step i j q1 h q4,if_pos hp]⟩;rcases Nat.lt_or_ge ((i+j) / 2) s with h5|h5
   ·omega
   ·exact absurd hp (h4 _ h5 (by omega))
  ·refine .inr ⟨_,⟨i,(i+j) / 2,q1,q2,?_,by omega,rfl⟩,by dsimp only; omega,fun kn=>by rw[step i j q1 h q4,if_neg hp]⟩;rcases Nat.lt_or_ge ((i+j) / 2) s with h5|h5
   ·exact absurd (h3 _ (by omega) h5) hp
   ·exact h5
 ·obtain rfl:i=j:=by omega
  obtain rfl:i=s:=by omega
  exact .inl fun kn=>stop i q1 q4 kn
def Z6 (rec:ad1) {P B C:List Way} {x:Way} {c0:Int} (hc:c0=((P.length+B.length+1:Nat):Int)) (hl:P.length+B.length≤1000000) (K:List Way→Option ρ) :
 Ê (fun(v:Int×List Way) kk=>ë rec c0 v.1 v.2 (fun a b=>kk (a,b)) K) ((P.length:Int),P++(x::(B++C)))=K (P++(B++x::C)):=by
 subst hc;refine Ę (fun v:Int×List Way=>∃B1 B2:List Way,B=B1++B2∧v=(((P.length+B1.length:Nat):Int),P++(B1++x::(B2++C)))) (fun v=>(P.length+B.length+1)-v.1.toNat) ?_ ⟨[],B,rfl,rfl⟩;rintro v ⟨B1,B2,hB,rfl⟩
 cases B2 with
 |nil =>
  refine .inl fun kn=>?_;rw[List.append_nil] at hB;subst hB;dsimp only;unfold ë;rw[Ó (by omega) (by omega),Ì (decide_eq_false (by omega))];rfl
 |cons y B2 =>
  have hlen:B.length=B1.length+B2.length+1:=by rw[hB]; simp; omega
  refine .inr ⟨(((P.length+(B1++[y]).length:Nat):Int),P++((B1++[y])++x::(B2++C))),⟨B1++[y],B2,by rw[hB]; simp,rfl⟩,by simp; omega,fun kn=>?_⟩;dsimp only;unfold ë
  have s1:P++(B1++x::(y::B2++C))=(P++B1)++x::(y::(B2++C)):=by simp
  have p1:((P.length+B1.length:Nat):Int)=(P++B1).length:=by simp
  have s2:P++(B1++x::(y::B2++C))=(P++B1++[x])++y::(B2++C):=by simp
  have p2:((P.length+B1.length:Nat):Int)+1=(P++B1++[x]).length:=by simp; omega
  have s3:(P++B1)++y::(y::(B2++C))=(P++B1++[y])++y::(B2++C):=by simp
  have p3:((P.length+B1.length:Nat):Int)+1=(P++B1++[y]).length:=by simp; omega
  rw[Ó (by omega) (by omega),Ù (decide_eq_true (by omega)),Ó (by omega) (by omega),Ó (by omega) (by omega),iq s2 p2,iq s1 p1,iq s1 p1,GB s1 p1,iq s3 p3,GB s3 p3,Ó (by omega) (by omega)];congr 1
  ·simp; omega
  ·simp
def ab3 (rec:ad1) {P B C:List Way} {x:Way} {c0:Int} (hc:c0=(P.length:Int)) (hl:P.length+B.length≤1000000) (K:List Way→Option ρ) :
 Ê (fun(v:Int×List Way) kk=>ê rec c0 v.1 v.2 (fun a b=>kk (a,b)) K) (((P.length+B.length:Nat):Int),P++(B++x::C))=K (P++(x::(B++C))):=by
 subst hc;refine Ę (fun v:Int×List Way=>∃B1 B2:List Way,B=B1++B2∧v=(((P.length+B1.length:Nat):Int),P++(B1++x::(B2++C)))) (fun v=>v.1.toNat) ?_ ⟨B,[],by simp,by simp⟩;rintro v ⟨B1,B2,hB,rfl⟩
 cases hB1:B1.reverse with
 |nil =>
  have:B1=[]:=by simpa using hB1
  subst this;refine .inl fun kn=>?_;dsimp only;unfold ê;rw[Ì (decide_eq_false (by simp)),hB];simp
 |cons y B3 =>
  have hA0:B1=B3.reverse++[y]:=by
   have:=congrArg List.reverse hB1;simpa using this
  generalize B3.reverse=A1 at hA0;subst hA0
  have hlen:B.length=A1.length+1+B2.length:=by rw[hB]; simp; omega
  refine .inr ⟨(((P.length+A1.length:Nat):Int),P++(A1++x::(y::B2++C))),⟨A1,y::B2,by rw[hB]; simp,rfl⟩,by simp; omega,fun kn=>?_⟩;dsimp only;unfold ê
  have e0:((P.length+(A1++[y]).length:Nat):Int)-1=((P.length+A1.length:Nat):Int):=by simp; omega
  have s1:P++(A1++[y]++x::(B2++C))=(P++A1)++y::(x::(B2++C)):=by simp
  have p1:((P.length+A1.length:Nat):Int)=(P++A1).length:=by simp
  have s2:P++(A1++[y]++x::(B2++C))=(P++A1++[y])++x::(B2++C):=by simp
  have p2:((P.length+(A1++[y]).length:Nat):Int)=(P++A1++[y]).length:=by simp
  have s3:(P++A1++[y])++y::(B2++C)=(P++A1)++y::(y::(B2++C)):=by simp
  rw[Ù (decide_eq_true (by simp; omega)),e0,Ó (by omega) (by omega),Ó (by omega) (by omega),iq s1 p1,iq s2 p2,iq s2 p2,GB s2 p2,iq s3 p1,GB s3 p1,Ó (by omega) (by omega)];congr 1;simp
end
section
variable {ρ:Type} {m:ő}
def symS (rec:ad1) (mid e b:Int) (k:List Way×ő→Option ρ) (l:List Way) (mm:ő):Option ρ :=
 ifb (ilt mid e) (ifb (ilt e b) (Ã (rec l mid e b mm) fun r=>k (r.1,r.2)) (k (l,mm))) (k (l,mm))
def symR (rec:ad1) (a z mid e b:Int) (k:List Way×ő→Option ρ) (l:List Way) (mm:ő):Option ρ :=
 ifb (ilt a z) (ifb (ilt z mid) (Ã (rec l a z mid mm) fun r=>symS rec mid e b k r.1 r.2) (symS rec mid e b k l mm)) (symS rec mid e b k l mm)
def ags (rec:ad1) (l:List Way) (a c b mid n:Int) (mm:ő) (k:List Way×ő→Option ρ) (z:Int):Option ρ :=
 ck (n-z) fun e=>ifb (ilt z c) (ifb (ilt c e) (Ã (Ĭ l z c e mm) fun r=>symR rec a z mid e b k r.1 r.2) (symR rec a z mid e b k l mm)) (symR rec a z mid e b k l mm)
def aap (n:Int):Int:=IntKind.wrap .i64 (gP .u64 (IntKind.wrap .u64 n) (1:Int))
def sym_eq (rec:ad1) (l:List Way) (a c b:Int) (mm:ő) (k:List Way×ő→Option ρ):Ġ rec l a c b mm k =
 ck (c-a) fun n1=>ifb (ieq n1 (1:Int)) (Ê (fun(v:Int×Int) kk=>ó rec a l mm.1.1.1 mm.1.1.2 mm.1.2.1 mm.1.2.2.1 mm.1.2.2.2.1 mm.1.2.2.2.2.1 mm.1.2.2.2.2.2 mm.2 v.1 v.2 (fun x y=>kk (x,y)) (fun z7=>Ê (fun(v:Int×List Way) kk=>ë rec z7 v.1 v.2 (fun x y=>kk (x,y)) (fun z16=>k (z16,mm))) (a,l))) (c,b))
  (ck (b-c) fun n25=>ifb (ieq n25 (1:Int)) (Ê (fun(v:Int×Int) kk=>ò rec c l mm.1.1.1 mm.1.1.2 mm.1.2.1 mm.1.2.2.1 mm.1.2.2.2.1 mm.1.2.2.2.2.1 mm.1.2.2.2.2.2 mm.2 v.1 v.2 (fun x y=>kk (x,y)) (fun z31=>Ê (fun(v:Int×List Way) kk=>ê rec z31 v.1 v.2 (fun x y=>kk (x,y)) (fun z39=>k (z39,mm))) (c,l))) (a,c))
   (ck (a+b) fun n48=>ck (aap n48+c) fun n49=>ifb (igt c (aap n48))
    (ck (n49-b) fun n50=>ck (n49-(1:Int)) fun n51=>Ê (fun(v:Int×Int) kk=>Ý rec n51 l mm.1.1.1 mm.1.1.2 mm.1.2.1 mm.1.2.2.1 mm.1.2.2.2.1 mm.1.2.2.2.2.1 mm.1.2.2.2.2.2 mm.2 v.1 v.2 (fun x y=>kk (x,y)) (ags rec l a c b (aap n48) n49 mm k)) (n50,aap n48))
    (ck (n49-(1:Int)) fun n77=>Ê (fun(v:Int×Int) kk=>Ý rec n77 l mm.1.1.1 mm.1.1.2 mm.1.2.1 mm.1.2.2.1 mm.1.2.2.2.1 mm.1.2.2.2.2.1 mm.1.2.2.2.2.2 mm.2 v.1 v.2 (fun x y=>kk (x,y)) (ags rec l a c b (aap n48) n49 mm k)) (a,c)))):=rfl
def RecOk (rec:ad1) (m:ő) (N:Nat):Prop:=∀P U V Q:List Way,1≤U.length→1≤V.length→U.length+V.length≤N→Srt (đ m) U→Srt (đ m) V→WOk m (U++V)→P.length+U.length+V.length≤1000000 →
 rec (P++(U++(V++Q))) P.length ((P.length+U.length:Nat):Int) ((P.length+U.length+V.length:Nat):Int) m=some (P++(į (đ m) (U++V)++Q),m)
def rq {l:List Way} (h:Srt (đ m) l):į (đ m) l=l:=uY h (Stb.refl l)
def pE (l:List Way):(į (đ m) l).length=l.length:=(Ķ l).length
def aej {rec:ad1} {N:Nat} (hrec:RecOk rec m N) {P u1 u2 v1 v2 Q:List Way} (s1:u1.length+v1.length≤N) (s2:u2.length+v2.length≤N) (hU:Srt (đ m) (u1++u2)) (hV:Srt (đ m) (v1++v2))
 (F1:∀x∈u2,∀y∈v1,đ m y<đ m x) (F2:∀x∈u1,∀y∈v2,đ m x≤đ m y) (hW:WOk m ((u1++u2)++(v1++v2))) (hl:P.length+u1.length+u2.length+v1.length+v2.length≤1000000)
 {a c b mid n z:Int} (ea:a=P.length) (ec:c=((P.length+u1.length+u2.length:Nat):Int)) (eb:b=((P.length+u1.length+u2.length+v1.length+v2.length:Nat):Int)) (emid:mid=((P.length+u1.length+v1.length:Nat):Int)) (ez:z=((P.length+u1.length:Nat):Int)) (en:n-z=((P.length+u1.length+u2.length+v1.length:Nat):Int)) :
 ags rec (P++((u1++u2)++((v1++v2)++Q))) a c b mid n m some z=some (P++(į (đ m) ((u1++u2)++(v1++v2))++Q),m):=by
 obtain⟨hU1,hU2,hU3⟩:=hU.parts;obtain⟨hV1,hV2,hV3⟩:=hV.parts;subst ea ec eb emid ez
 have fin:į (đ m) ((u1++u2)++(v1++v2))=į (đ m) (u1++v1)++į (đ m) (u2++v2):=by
  refine uY ?_ ?_
  ·refine(ic _).append (ic _) fun x hx y hy=>?_;have hx:=(Ķ _).mem.1 hx;have hy:=(Ķ _).mem.1 hy
   rcases cG.1 hx with hx|hx<;>rcases cG.1 hy with hy|hy
   ·exact hU3 x hx y hy
   ·exact F2 x hx y hy
   ·have:=F1 y hy x hx; omega
   ·exact hV3 x hx y hy
  ·have q:Stb (đ m) (u2++v1) (v1++u2):=Stb.swap fun x hx y hy=>by have:=F1 x hx y hy; omega
   have q2:=((Stb.refl (key:=đ m) u1).append (q.append (Stb.refl v2)))
   have e1:u1++(u2++v1++v2)=u1++u2++(v1++v2):=by simp
   have e2:u1++(v1++u2++v2)=(u1++v1)++(u2++v2):=by simp
   rw[e1,e2] at q2;exact q2.trans ((Ķ _).append (Ķ _))
 have lI:(į (đ m) (u1++v1)).length=u1.length+v1.length:=by rw[pE]; simp
 have hS:symS rec ((P.length+u1.length+v1.length:Nat):Int) ((P.length+u1.length+u2.length+v1.length:Nat):Int) ((P.length+u1.length+u2.length+v1.length+v2.length:Nat):Int) some (P++(į (đ m) (u1++v1)++(u2++(v2++Q)))) m=some (P++(į (đ m) ((u1++u2)++(v1++v2))++Q),m):=by
  rw[fin];unfold symS
  by_cases h1:u2=[]
  ·subst h1;rw[Ì (decide_eq_false (by simp))];simp only[dN,cN];rw[rq hV2]
  by_cases h2:v2=[]
  ·subst h2;have q:ilt ((P.length+u1.length+u2.length+v1.length:Nat):Int) ((P.length+u1.length+u2.length+v1.length+([]:List Way).length:Nat):Int)=false:=decide_eq_false (by simp);rw[q,é];simp only[dN,cY,cN];rw[rq hU2]
   cases ilt ((P.length+u1.length+v1.length:Nat):Int) ((P.length+u1.length+u2.length+v1.length:Nat):Int)<;>rfl
  have k1:1≤u2.length:=dT.2 h1;have k2:1≤v2.length:=dT.2 h2
  have:=hrec (P++į (đ m) (u1++v1)) u2 v2 Q k1 k2 s2 hU2 hV2 (hW.sub fun x hx=>by
   rcases cG.1 hx with hx|hx<;>simp[hx]) (by rw[cF,lI]; omega)
  rw[Ù (decide_eq_true (by omega)),Ù (decide_eq_true (by omega))]
  have e1:P++(į (đ m) (u1++v1)++(u2++(v2++Q)))=(P++į (đ m) (u1++v1))++(u2++(v2++Q)):=by simp
  rw[e1,show((P.length+u1.length+v1.length:Nat):Int)=((P++į (đ m) (u1++v1)).length:Int) by rw[cF,lI]; omega,
   show((P.length+u1.length+u2.length+v1.length:Nat):Int)=(((P++į (đ m) (u1++v1)).length+u2.length:Nat):Int) by rw[cF,lI]; omega,
   show((P.length+u1.length+u2.length+v1.length+v2.length:Nat):Int)=(((P++į (đ m) (u1++v1)).length+u2.length+v2.length:Nat):Int) by rw[cF,lI]; omega,this,À]
  simp
 have hR:symR rec (P.length:Int) ((P.length+u1.length:Nat):Int) ((P.length+u1.length+v1.length:Nat):Int) ((P.length+u1.length+u2.length+v1.length:Nat):Int) ((P.length+u1.length+u2.length+v1.length+v2.length:Nat):Int) some (P++(u1++(v1++(u2++(v2++Q))))) m=some (P++(į (đ m) ((u1++u2)++(v1++v2))++Q),m):=by
  unfold symR
  by_cases h1:u1=[]
  ·have q:ilt (P.length:Int) ((P.length+u1.length:Nat):Int)=false:=decide_eq_false (by rw[h1]; simp)
   have e:P++(į (đ m) (u1++v1)++(u2++(v2++Q)))=P++(u1++(v1++(u2++(v2++Q)))):=by
    subst h1;simp only[dN];rw[rq hV1]
   rw[e] at hS;rw[q,é,hS]
  by_cases h2:v1=[]
  ·have e:P++(į (đ m) (u1++v1)++(u2++(v2++Q)))=P++(u1++(v1++(u2++(v2++Q)))):=by
    subst h2;simp only[cY,dN];rw[rq hU1]
   rw[e] at hS;have q:ilt ((P.length+u1.length:Nat):Int) ((P.length+u1.length+v1.length:Nat):Int)=false:=decide_eq_false (by rw[h2]; simp);rw[q,é,hS]
   cases ilt (P.length:Int) ((P.length+u1.length:Nat):Int)<;>rfl
  have k1:1≤u1.length:=dT.2 h1;have k2:1≤v1.length:=dT.2 h2;rw[Ù (decide_eq_true (by omega)),Ù (decide_eq_true (by omega))]
  rw[hrec P u1 v1 (u2++(v2++Q)) k1 k2 s1 hU1 hV1 (hW.sub fun x hx=>by
   rcases cG.1 hx with hx|hx<;>simp[hx]) (by omega),À]
  exact hS
 unfold ags;rw[en,Ó (by omega) (by omega)]
 by_cases h1:u2=[]
 ·have q:ilt ((P.length+u1.length:Nat):Int) ((P.length+u1.length+u2.length:Nat):Int)=false:=decide_eq_false (by rw[h1]; simp)
  have e:P++((u1++u2)++((v1++v2)++Q))=P++(u1++(v1++(u2++(v2++Q)))):=by rw[h1]; simp
  rw[q,é,e,hR]
 by_cases h2:v1=[]
 ·have e:P++((u1++u2)++((v1++v2)++Q))=P++(u1++(v1++(u2++(v2++Q)))):=by rw[h2]; simp
  have q:ilt ((P.length+u1.length+u2.length:Nat):Int) ((P.length+u1.length+u2.length+v1.length:Nat):Int)=false:=decide_eq_false (by rw[h2]; simp);rw[q,é,e,hR]
  cases ilt ((P.length+u1.length:Nat):Int) ((P.length+u1.length+u2.length:Nat):Int)<;>rfl
 have k1:1≤u2.length:=dT.2 h1;have k2:1≤v1.length:=dT.2 h2;rw[Ù (decide_eq_true (by omega)),Ù (decide_eq_true (by omega))];have:=aby (m:=m) (A:=P++u1) (U:=u2) (V:=v1) (C:=v2++Q) k1 k2 (by simp; omega);rw[cF] at this
 have e1:P++((u1++u2)++((v1++v2)++Q))=(P++u1)++(u2++(v1++(v2++Q))):=by simp
 rw[e1,this,À]
 have e2:(P++u1)++(v1++(u2++(v2++Q)))=P++(u1++(v1++(u2++(v2++Q)))):=by simp
 rw[e2];exact hR
end
section
variable {ρ:Type} {m:ő}
def giW (l:List Way) (i:Nat):Way:=(l[i]?).getD []
def E4 {l:List Way} {i:Nat} (h:i<l.length) (K:Way→Option ρ):(è ((ile (0:Int) (i:Int))&&(ilt (i:Int) (ñ l))) (Ľ l (Int.toNat (i:Int)) K))=K (giW l i):=by
 rw[Đ (by simp[ile,ilt,ñ]; omega),cQ,iV (cA h)];simp[giW,cA h]
def IA {i j:Nat} (h:i+j≤10000000):IntKind.wrap .i64 (gP .u64 (IntKind.wrap .u64 ((i:Int)+(j:Int))) (1:Int))=(((i+j) / 2:Nat):Int):=by
 rw[←agW h]; push_cast; rfl
def KOk (m:ő) (x:Way):Prop:=ĥ m x=some (đ m x)
def Tv {x y:Way} (hx:KOk m x) (hy:KOk m y) (X Y:Option ρ):(Ã (i8 x y m) fun r=>ifb (!(ilt r (0:Int))) X Y)=if đ m x≥đ m y then X else Y:=by
 rw[Sr hx hy,À]
 by_cases h:đ m x<đ m y
 ·rw[if_pos h,if_neg (show ¬đ m x≥đ m y by omega)]; rfl
 ·rw[if_neg h,if_pos (show đ m x≥đ m y by omega)]
  by_cases h2:đ m y<đ m x
  ·rw[if_pos h2]; rfl
  ·rw[if_neg h2]; rfl
def agA (rec:ad1) {l:List Way} {a i j:Nat} (hij:i<j) (hj:j≤l.length) (ha:a<l.length) (hl:j≤2000000) (wa:KOk m (giW l a)) (wh:KOk m (giW l ((i+j) / 2))) (kn:Int→Int→Option ρ) (k0:Int→Option ρ) :
 ó rec (a:Int) l m.1.1.1 m.1.1.2 m.1.2.1 m.1.2.2.1 m.1.2.2.2.1 m.1.2.2.2.2.1 m.1.2.2.2.2.2 m.2 (i:Int) (j:Int) kn k0=if đ m (giW l ((i+j) / 2))<đ m (giW l a) then kn (((i+j) / 2+1:Nat):Int) j else kn i (((i+j) / 2:Nat):Int):=by
 unfold ó;rw[Ù (decide_eq_true (by omega)),Ó (by omega) (by omega),IA (by omega),E4 (by omega),E4 ha];refine(YL wh wa _ _).trans ?_;rw[Ó (by omega) (by omega)];rfl
def agz (rec:ad1) {l:List Way} {c i j:Nat} (hij:i<j) (hj:j≤l.length) (hc:c<l.length) (hl:j≤2000000) (wc:KOk m (giW l c)) (wh:KOk m (giW l ((i+j) / 2))) (kn:Int→Int→Option ρ) (k0:Int→Option ρ) :
 ò rec (c:Int) l m.1.1.1 m.1.1.2 m.1.2.1 m.1.2.2.1 m.1.2.2.2.1 m.1.2.2.2.2.1 m.1.2.2.2.2.2 m.2 (i:Int) (j:Int) kn k0=if đ m (giW l c)≥đ m (giW l ((i+j) / 2)) then kn (((i+j) / 2+1:Nat):Int) j else kn i (((i+j) / 2:Nat):Int):=by
 unfold ò;rw[Ù (decide_eq_true (by omega)),Ó (by omega) (by omega),IA (by omega),E4 hc,E4 (by omega)];refine(Tv wc wh _ _).trans ?_;rw[Ó (by omega) (by omega)];rfl
def agy (rec:ad1) {l:List Way} {p i j:Nat} (hij:i<j) (hj:j≤l.length) (hp:(i+j) / 2≤p) (hp2:p-(i+j) / 2<l.length) (hl:j≤2000000) (hpb:p≤4000000) (wc:KOk m (giW l (p-(i+j) / 2))) (wh:KOk m (giW l ((i+j) / 2))) (kn:Int→Int→Option ρ) (k0:Int→Option ρ) :
 Ý rec (p:Int) l m.1.1.1 m.1.1.2 m.1.2.1 m.1.2.2.1 m.1.2.2.2.1 m.1.2.2.2.2.1 m.1.2.2.2.2.2 m.2 (i:Int) (j:Int) kn k0=if đ m (giW l (p-(i+j) / 2))≥đ m (giW l ((i+j) / 2)) then kn (((i+j) / 2+1:Nat):Int) j else kn i (((i+j) / 2:Nat):Int):=by
 unfold Ý;rw[Ù (decide_eq_true (by omega)),Ó (by omega) (by omega),IA (by omega),show(p:Int)-(((i+j) / 2:Nat):Int)=((p-(i+j) / 2:Nat):Int) by omega,Ó (by omega) (by omega),E4 hp2,E4 (by omega)];refine(Tv wc wh _ _).trans ?_;rw[Ó (by omega) (by omega)];rfl
def qm {α:Type} {l:List α} {n:Nat} {y:α} (h:y∈l.take n):∃j,j<n∧j<l.length∧l[j]?=some y:=by
 obtain⟨j,hj,e⟩:=cO.1 h;simp only[cW] at hj;refine⟨j,by omega,by omega,?_⟩;rw[eP] at e;rw[cA (by omega),e]
def qn {α:Type} {l:List α} {n:Nat} {y:α} (h:y∈l.drop n):∃j,n≤j∧j<l.length∧l[j]?=some y:=by
 obtain⟨j,hj,e⟩:=cO.1 h;simp only[gb] at hj;refine⟨n+j,by omega,by omega,?_⟩;rw[List.getElem_drop] at e;rw[cA (by omega),e]
def abn {l:List Way} (h:Srt (đ m) l) {i j:Nat} {x y:Way} (hi:l[i]?=some x) (hj:l[j]?=some y) (hij:i≤j):đ m x≤đ m y:=by
 obtain⟨h1,rfl⟩:=cE.1 hi;obtain⟨h2,rfl⟩:=cE.1 hj;rcases fW hij with hlt|rfl
 ·exact dh.1 h i j h1 h2 hlt
 ·exact dL _
def Gx:∀(f N:Nat),N≤2 ^ f→RecOk (ğ (f+1)) m N
 |0,N,hN=>fun P U V Q hU hV hn=>by simp at hN; omega
 |f+1,N,hN=>fun P U V Q hU hV hn sU sV hW hl=>by
  have hrec:=Gx f (2 ^ f) (cB _)
  have hpow:2 ^ (f+1)=2*2 ^ f:=by rw[Nat.pow_succ]; omega
  show Ġ (ğ (f+1)) _ _ _ _ m some=_;generalize ğ (f+1)=rec at hrec;obtain⟨l,hle⟩:∃l,l=P++(U++(V++Q)):=⟨_,rfl⟩
  have hll:P.length+U.length+V.length≤l.length:=by rw[hle]; simp; omega
  rw[sym_eq]
  -- what lies where
  have gU:∀i x,U[i]?=some x→giW l (P.length+i)=x:=fun i x hx=>by
   have hi:=(List.getElem?_eq_some_iff.1 hx).1;unfold giW;rw[hle,List.getElem?_append_right (by omega),List.getElem?_append_left (by omega),show P.length+i-P.length=i by omega,hx];rfl
  have gV:∀i x,V[i]?=some x→giW l (P.length+U.length+i)=x:=fun i x hx=>by
   have hi:=(List.getElem?_eq_some_iff.1 hx).1;unfold giW;rw[hle,List.getElem?_append_right (by omega),List.getElem?_append_right (by omega),List.getElem?_append_left (by omega),show P.length+U.length+i-P.length-U.length=i by omega,hx];rfl
  have kU:∀c c',P.length≤c→c≤c'→c'<P.length+U.length→đ m (giW l c)≤đ m (giW l c'):=fun c c' h1 h2 h3=>by
   have q1:U[c-P.length]?=some U[c-P.length]:=cA (by omega);have q2:U[c'-P.length]?=some U[c'-P.length]:=cA (by omega);have e1:=gU _ _ q1;have e2:=gU _ _ q2;rw[show P.length+(c-P.length)=c by omega] at e1;rw[show P.length+(c'-P.length)=c' by omega] at e2;rw[e1,e2];exact abn sU q1 q2 (by omega)
  have kV:∀c c',P.length+U.length≤c→c≤c'→c'<P.length+U.length+V.length→đ m (giW l c)≤đ m (giW l c'):=fun c c' h1 h2 h3=>by
   have q1:V[c-(P.length+U.length)]?=some V[c-(P.length+U.length)]:=cA (by omega);have q2:V[c'-(P.length+U.length)]?=some V[c'-(P.length+U.length)]:=cA (by omega);have e1:=gV _ _ q1;have e2:=gV _ _ q2;rw[show P.length+U.length+(c-(P.length+U.length))=c by omega] at e1;rw[show P.length+U.length+(c'-(P.length+U.length))=c' by omega] at e2;rw[e1,e2];exact abn sV q1 q2 (by omega)
  have kW:∀c,P.length≤c→c<P.length+U.length+V.length→KOk m (giW l c):=fun c h1 h2=>by
   rcases cX c (P.length+U.length) with h3|h3
   ·have q1:U[c-P.length]?=some U[c-P.length]:=cA (by omega);have e1:=gU _ _ q1;rw[show P.length+(c-P.length)=c by omega] at e1;rw[e1];exact hW _ (du _ (eT _))
   ·have q1:V[c-(P.length+U.length)]?=some V[c-(P.length+U.length)]:=cA (by omega);have e1:=gV _ _ q1;rw[show P.length+U.length+(c-(P.length+U.length))=c by omega] at e1;rw[e1];exact hW _ (dt _ (eT _))
  have e0:((P.length+U.length:Nat):Int)-(P.length:Int)=U.length:=by omega
  have e1:((P.length+U.length+V.length:Nat):Int)-((P.length+U.length:Nat):Int)=V.length:=by omega
  rw[e0,e1,Ó (by omega) (by omega),Ó (by omega) (by omega),←hle];have half:aap ((P.length:Int)+((P.length+U.length+V.length:Nat):Int))=(((P.length+(P.length+U.length+V.length)) / 2:Nat):Int):=IA (by omega)
  by_cases hU1:U.length=1
  ·rw[Ù (beq_iff_eq.2 (by rw[hU1]; rfl))]
   obtain⟨x,hx⟩:∃x,U=[x]:=by
    cases U with
    |nil=>simp at hU1
    |cons x t=>cases t with
     |nil=>exact⟨x,rfl⟩
     |cons y t=>simp at hU1
   have gx:giW l P.length=x:=by
    have:=gU 0 x (by rw[hx]; rfl);exact this
   obtain⟨s,s1,s2,s3,s4,s5⟩:=XI (f:=fun(v:Int×Int) kk=>ó rec (P.length:Int) l m.1.1.1 m.1.1.2 m.1.2.1 m.1.2.2.1 m.1.2.2.2.1 m.1.2.2.2.2.1 m.1.2.2.2.2.2 m.2 v.1 v.2 (fun x y=>kk (x,y)) (fun z7=>Ê (fun(v:Int×List Way) kk=>ë rec z7 v.1 v.2 (fun x y=>kk (x,y)) (fun z16=>some (z16,m))) ((P.length:Int),l)))
    (K:=fun z7=>Ê (fun(v:Int×List Way) kk=>ë rec z7 v.1 v.2 (fun x y=>kk (x,y)) (fun z16=>some (z16,m))) ((P.length:Int),l)) (lo:=P.length+U.length) (hi:=P.length+U.length+V.length) (by omega)
    (fun h=>đ m (giW l h)<đ m (giW l P.length)) (fun c c' q1 q2 q3 q4=>by have:=kV c c' q1 q2 q3; omega)
    (fun i j q1 q2 q3 kn=>agA rec q2 (by omega) (by omega) (by omega) (kW _ (cB _) (by omega)) (kW _ (by omega) (by omega)) _ _)
    (fun i q1 q2 kn=>by
     dsimp only;unfold ó
     rw[Ì (decide_eq_false (by omega))])
   refine s5.trans ?_
   have hk:s-(P.length+U.length)≤V.length:=by omega
   obtain⟨k,hkk⟩:∃k,k=s-(P.length+U.length):=⟨_,rfl⟩;rw[←hkk] at hk
   have lt:(V.take k).length=k:=by simp; omega
   have hB:∀y∈V.take k,đ m y<đ m x:=fun y hy=>by
    obtain⟨j,j1,j2,j3⟩:=qm hy;have:=s3 (P.length+U.length+j) (by omega) (by omega);rw[gV j y j3,gx] at this;exact this
   have hD:∀y∈V.drop k,đ m x≤đ m y:=fun y hy=>by
    obtain⟨j,j1,j2,j3⟩:=qn hy;have:=s4 (P.length+U.length+j) (by omega) (by omega);rw[gV j y j3,gx] at this;omega
   have hv:V=V.take k++V.drop k:=(dM _ _).symm
   have fin:į (đ m) (U++V)=V.take k++x::V.drop k:=by
    rw[hv] at sV;obtain⟨v1,v2,v3⟩:=sV.parts;refine uY ?_ ?_
    ·refine v1.append (List.Pairwise.cons hD v2) fun y hy z hz=>?_;rcases cH.1 hz with rfl|hz
     ·have:=hB y hy; omega
     ·exact v3 y hy z hz
    ·have:=(Stb.swap (key:=đ m) (u:=[x]) (v:=V.take k) (fun a ha b hb=>by simp at ha; subst ha; have:=hB b hb; omega)).append (Stb.refl (V.drop k));rw[hx]
     have e:[x]++V.take k++V.drop k=[x]++V:=by rw[cN,←hv]
     rw[e] at this;simpa using this
   have hs:(s:Int)=((P.length+(V.take k).length+1:Nat):Int):=by rw[lt]; omega
   have:=Z6 rec (P:=P) (B:=V.take k) (C:=V.drop k++Q) (x:=x) hs (by rw[lt]; omega) (fun z16=>some (z16,m))
   have e2:l=P++(x::(V.take k++(V.drop k++Q))):=by
    rw[hle,hx,←cN (V.take k),←hv];rfl
   rw[←e2] at this;refine this.trans ?_;rw[fin];simp
  rw[Ì (beq_eq_false_iff_ne.2 (fun h=>hU1 (by exact_mod_cast h)))]
  by_cases hV1:V.length=1
  ·rw[Ù (beq_iff_eq.2 (by rw[hV1]; rfl))]
   obtain⟨x,hx⟩:∃x,V=[x]:=by
    cases V with
    |nil=>simp at hV1
    |cons x t=>cases t with
     |nil=>exact⟨x,rfl⟩
     |cons y t=>simp at hV1
   have gx:giW l (P.length+U.length)=x:=by
    have:=gV 0 x (by rw[hx]; rfl);exact this
   obtain⟨s,s1,s2,s3,s4,s5⟩:=XI (f:=fun(v:Int×Int) kk=>ò rec ((P.length+U.length:Nat):Int) l m.1.1.1 m.1.1.2 m.1.2.1 m.1.2.2.1 m.1.2.2.2.1 m.1.2.2.2.2.1 m.1.2.2.2.2.2 m.2 v.1 v.2 (fun x y=>kk (x,y)) (fun z7=>Ê (fun(v:Int×List Way) kk=>ê rec z7 v.1 v.2 (fun x y=>kk (x,y)) (fun z16=>some (z16,m))) (((P.length+U.length:Nat):Int),l)))
    (K:=fun z7=>Ê (fun(v:Int×List Way) kk=>ê rec z7 v.1 v.2 (fun x y=>kk (x,y)) (fun z16=>some (z16,m))) (((P.length+U.length:Nat):Int),l)) (lo:=P.length) (hi:=P.length+U.length) (by omega)
    (fun h=>đ m (giW l (P.length+U.length))≥đ m (giW l h)) (fun c c' q1 q2 q3 q4=>by have:=kU c c' q1 q2 q3; omega)
    (fun i j q1 q2 q3 kn=>agz rec q2 (by omega) (by omega) (by omega) (kW _ (by omega) (by omega)) (kW _ (by omega) (by omega)) _ _)
    (fun i q1 q2 kn=>by
     dsimp only;unfold ò
     rw[Ì (decide_eq_false (by omega))])
   refine s5.trans ?_;obtain⟨k,hkk⟩:∃k,k=s-P.length:=⟨_,rfl⟩
   have hk:k≤U.length:=by omega
   have lt:(U.take k).length=k:=by simp; omega
   have hB:∀y∈U.take k,đ m y≤đ m x:=fun y hy=>by
    obtain⟨j,j1,j2,j3⟩:=qm hy;have:=s3 (P.length+j) (by omega) (by omega);rw[gU j y j3,gx] at this;exact this
   have hD:∀y∈U.drop k,đ m x<đ m y:=fun y hy=>by
    obtain⟨j,j1,j2,j3⟩:=qn hy;have:=s4 (P.length+j) (by omega) (by omega);rw[gU j y j3,gx] at this;omega
   have hv:U=U.take k++U.drop k:=(dM _ _).symm
   have fin:į (đ m) (U++V)=U.take k++x::U.drop k:=by
    rw[hv] at sU;obtain⟨v1,v2,v3⟩:=sU.parts;refine uY ?_ ?_
    ·refine v1.append (List.Pairwise.cons (fun y hy=>by have:=hD y hy; omega) v2) fun y hy z hz=>?_;rcases cH.1 hz with rfl|hz
     ·exact hB y hy
     ·exact v3 y hy z hz
    ·have:=(Stb.refl (key:=đ m) (U.take k)).append (Stb.swap (key:=đ m) (u:=U.drop k) (v:=[x]) (fun a ha b hb=>by simp at hb; subst hb; have:=hD a ha; omega));rw[hx]
     have e:U.take k++(U.drop k++[x])=U++[x]:=by rw[←cN,←hv]
     rw[e] at this;simpa using this
   have hs:(s:Int)=((P++U.take k).length:Int):=by rw[cF,lt]; omega
   have ld:(U.drop k).length=U.length-k:=by simp
   have:=ab3 rec (P:=P++U.take k) (B:=U.drop k) (C:=Q) (x:=x) hs (by rw[cF,lt,ld]; omega) (fun z16=>some (z16,m))
   have e2:l=(P++U.take k)++(U.drop k++x::Q):=by
    rw[hle,hx,cN,←cN (U.take k),←hv];rfl
   rw[←e2,show(((P++U.take k).length+(U.drop k).length:Nat):Int)=((P.length+U.length:Nat):Int) by rw[cF,lt,ld]; omega] at this;refine this.trans ?_;rw[fin];simp
  rw[Ì (beq_eq_false_iff_ne.2 (fun h=>hV1 (by exact_mod_cast h))),Ó (by omega) (by omega),half];obtain⟨mid,hmid⟩:∃mid,mid=(P.length+(P.length+U.length+V.length)) / 2:=⟨_,rfl⟩;rw[←hmid,Ó (by omega) (by omega)]
  have hm1:P.length≤mid:=by omega
  have hm2:mid≤P.length+U.length+V.length:=by omega
  -- the search, and what is behind it
  have gen:∀lo hi:Nat,P.length≤lo→lo≤hi→hi≤P.length+U.length→hi≤mid→mid+(P.length+U.length)≤lo+(P.length+U.length+V.length)→(hi=P.length+U.length∨hi=mid)→(lo=P.length∨lo+(P.length+U.length+V.length)=mid+(P.length+U.length)) →
   Ê (fun(v:Int×Int) kk=>Ý rec (((mid+(P.length+U.length)-1:Nat)):Int) l m.1.1.1 m.1.1.2 m.1.2.1 m.1.2.2.1 m.1.2.2.2.1 m.1.2.2.2.2.1 m.1.2.2.2.2.2 m.2 v.1 v.2 (fun x y=>kk (x,y)) (ags rec l (P.length:Int) ((P.length+U.length:Nat):Int) ((P.length+U.length+V.length:Nat):Int) (mid:Int) ((mid:Int)+((P.length+U.length:Nat):Int)) m some)) ((lo:Int),(hi:Int))=some (P++(į (đ m) (U++V)++Q),m):=by
   intro lo hi h1 h2 h3 h4 h5 h6 h7
   have hmu:mid<P.length+U.length+V.length:=by omega
   obtain⟨s,s1,s2,s3,s4,s5⟩:=XI (f:=fun(v:Int×Int) kk=>Ý rec (((mid+(P.length+U.length)-1:Nat)):Int) l m.1.1.1 m.1.1.2 m.1.2.1 m.1.2.2.1 m.1.2.2.2.1 m.1.2.2.2.2.1 m.1.2.2.2.2.2 m.2 v.1 v.2 (fun x y=>kk (x,y)) (ags rec l (P.length:Int) ((P.length+U.length:Nat):Int) ((P.length+U.length+V.length:Nat):Int) (mid:Int) ((mid:Int)+((P.length+U.length:Nat):Int)) m some))
    (K:=ags rec l (P.length:Int) ((P.length+U.length:Nat):Int) ((P.length+U.length+V.length:Nat):Int) (mid:Int) ((mid:Int)+((P.length+U.length:Nat):Int)) m some) (lo:=lo) (hi:=hi) h2
    (fun h=>đ m (giW l (mid+(P.length+U.length)-1-h))≥đ m (giW l h)) (fun c c' q1 q2 q3 q4=>by
     have a1:=kU c c' (by omega) q2 (by omega);have a2:=kV (mid+(P.length+U.length)-1-c') (mid+(P.length+U.length)-1-c) (by omega) (by omega) (by omega)
     omega)
    (fun i j q1 q2 q3 kn=>agy rec q2 (by omega) (by omega) (by omega) (by omega) (by omega) (kW _ (by omega) (by omega)) (kW _ (by omega) (by omega)) _ _)
    (fun i q1 q2 kn=>by
     dsimp only;unfold Ý
     rw[Ì (decide_eq_false (by omega))])
   refine s5.trans ?_;obtain⟨e,he⟩:∃e,e=mid+(P.length+U.length)-s:=⟨_,rfl⟩
   have lu1:(U.take (s-P.length)).length=s-P.length:=by simp; omega
   have lu2:(U.drop (s-P.length)).length=P.length+U.length-s:=by simp; omega
   have lv1:(V.take (e-(P.length+U.length))).length=e-(P.length+U.length):=by simp; omega
   have lv2:(V.drop (e-(P.length+U.length))).length=P.length+U.length+V.length-e:=by simp; omega
   have hu:U=U.take (s-P.length)++U.drop (s-P.length):=(dM _ _).symm;have hv:V=V.take (e-(P.length+U.length))++V.drop (e-(P.length+U.length)):=(dM _ _).symm
   have F1:∀x∈U.drop (s-P.length),∀y∈V.take (e-(P.length+U.length)),đ m y<đ m x:=fun x hx y hy=>by
    obtain⟨i,i1,i2,i3⟩:=qn hx;obtain⟨j,j1,j2,j3⟩:=qm hy;have q:=s4 s (cB _) (by omega);rw[show mid+(P.length+U.length)-1-s=e-1 by omega] at q;have a1:=kV (P.length+U.length+j) (e-1) (by omega) (by omega) (by omega);have a2:=kU s (P.length+i) (by omega) (by omega) (by omega);rw[gV j y j3] at a1;rw[gU i x i3] at a2;omega
   have F2:∀x∈U.take (s-P.length),∀y∈V.drop (e-(P.length+U.length)),đ m x≤đ m y:=fun x hx y hy=>by
    obtain⟨i,i1,i2,i3⟩:=qm hx;obtain⟨j,j1,j2,j3⟩:=qn hy;have q:=s3 (s-1) (by omega) (by omega);rw[show mid+(P.length+U.length)-1-(s-1)=e by omega] at q;have a1:=kV e (P.length+U.length+j) (by omega) (by omega) (by omega);have a2:=kU (P.length+i) (s-1) (by omega) (by omega) (by omega);rw[gV j y j3] at a1;rw[gU i x i3] at a2;omega
   have hW':WOk m ((U.take (s-P.length)++U.drop (s-P.length))++(V.take (e-(P.length+U.length))++V.drop (e-(P.length+U.length)))):=by rw[←hu,←hv]; exact hW
   have:=aej hrec (P:=P) (u1:=U.take (s-P.length)) (u2:=U.drop (s-P.length)) (v1:=V.take (e-(P.length+U.length))) (v2:=V.drop (e-(P.length+U.length))) (Q:=Q) (by omega) (by omega) (by rw[←hu]; exact sU) (by rw[←hv]; exact sV) F1 F2 hW' (by omega)
    (a:=(P.length:Int)) (c:=((P.length+U.length:Nat):Int)) (b:=((P.length+U.length+V.length:Nat):Int)) (mid:=(mid:Int)) (n:=(mid:Int)+((P.length+U.length:Nat):Int)) (z:=(s:Int)) rfl (by omega) (by omega) (by omega) (by omega) (by omega)
   rw[←hu,←hv,←hle] at this;exact this
  by_cases hgt:mid<P.length+U.length
  ·rw[Ù (decide_eq_true (by omega)),Ó (by omega) (by omega),Ó (by omega) (by omega)];have:=gen (mid+(P.length+U.length)-(P.length+U.length+V.length)) mid (by omega) (by omega) (by omega) (cB _) (by omega) (.inr rfl) (.inr (by omega));rw[show((mid+(P.length+U.length)-1:Nat):Int)=(mid:Int)+((P.length+U.length:Nat):Int)-1 by omega,show((mid+(P.length+U.length)-(P.length+U.length+V.length):Nat):Int)=(mid:Int)+((P.length+U.length:Nat):Int)-((P.length+U.length+V.length:Nat):Int) by omega] at this;exact this
  ·rw[Ì (decide_eq_false (by omega)),Ó (by omega) (by omega)];have:=gen P.length (P.length+U.length) (cB _) (by omega) (cB _) (by omega) (by omega) (.inl rfl) (.inl rfl);rw[show((mid+(P.length+U.length)-1:Nat):Int)=(mid:Int)+((P.length+U.length:Nat):Int)-1 by omega] at this;exact this
def IR {P U V Q:List Way} (hU:1≤U.length) (hV:1≤V.length) (sU:Srt (đ m) U) (sV:Srt (đ m) V) (hW:WOk m (U++V)) (hl:P.length+U.length+V.length≤1000000) :
 ď (P++(U++(V++Q))) P.length ((P.length+U.length:Nat):Int) ((P.length+U.length+V.length:Nat):Int) m=some (P++(į (đ m) (U++V)++Q),m) :=
 Gx 99 1000000 (by decide) P U V Q hU hV (by omega) sU sV hW hl
end
section
variable {ρ:Type} {m:ő}
inductive Chs (m:ő) (bs:Nat):List Way→Prop
 |last {l:List Way}:l.length≤bs→Srt (đ m) l→Chs m bs l
 |cons {u r:List Way}:u.length=bs→Srt (đ m) u→Chs m bs r→Chs m bs (u++r)
def Chs.split {bs:Nat} {l:List Way} (h:Chs m bs l) (hl:bs<l.length):∃u r,l=u++r∧u.length=bs∧Srt (đ m) u∧Chs m bs r:=by
 cases h with
 |last h1 h2=>omega
 | @cons u r h1 h2 h3=>exact⟨u,r,rfl,h1,h2,h3⟩
def Chs.srt {bs:Nat} {l:List Way} (h:Chs m bs l) (hl:l.length≤bs):Srt (đ m) l:=by
 cases h with
 |last h1 h2=>exact h2
 | @cons u r h1 h2 h3 =>
  have:r=[]:=by
   rw[cF] at hl;exact cR.1 (by omega)
  rw[this,cY];exact h2
def csR (m:ő) (bs:Nat):Nat→List Way→List Way
 |0,l=>l
 |f+1,l=>if bs≤l.length then į (đ m) (l.take bs)++csR m bs f (l.drop bs) else į (đ m) l
def mpR (m:ő) (bs:Nat):Nat→List Way→List Way
 |0,l=>l
 |f+1,l=>if 2*bs≤l.length then į (đ m) (l.take (2*bs))++mpR m bs f (l.drop (2*bs)) else if bs<l.length then į (đ m) l else l
def af9 {bs:Nat} (hb:1≤bs):∀(f:Nat) (l:List Way),l.length<f→Chs m bs (csR m bs f l)∧Stb (đ m) l (csR m bs f l)
 |0,_,h=>by omega
 |f+1,l,h=>by
  unfold csR
  by_cases hl:bs≤l.length
  ·rw[if_pos hl];obtain⟨h1,h2⟩:=af9 hb f (l.drop bs) (by simp; omega);refine⟨.cons (by rw[pE]; simp; omega) (ic _) h1,?_⟩;have:=(Ķ (key:=đ m) (l.take bs)).append h2
   rwa [dM] at this
  ·rw[if_neg hl];exact⟨.last (by rw[pE]; omega) (ic _),Ķ _⟩
def afY {bs:Nat} (hb:1≤bs):∀(f:Nat) (l:List Way),l.length<f→Chs m bs l→Chs m (2*bs) (mpR m bs f l)∧Stb (đ m) l (mpR m bs f l)
 |0,_,h,_=>by omega
 |f+1,l,h,hc=>by
  unfold mpR
  by_cases hl:2*bs≤l.length
  ·rw[if_pos hl]
   have hd:Chs m bs (l.drop (2*bs)):=by
    obtain⟨u,r,rfl,h1,_,h2⟩:=hc.split (by omega)
    have hr:bs≤r.length:=by rw[cF] at hl; omega
    have e:(u++r).drop (2*bs)=r.drop bs:=by
     rw[List.drop_append,fZ (by omega),dN];congr 1; omega
    rw[e];rcases fW hr with h3|h3
    ·obtain⟨u2,r2,rfl,h4,_,h5⟩:=h2.split h3;rw[List.drop_append,fZ (by omega),dN,h4,gJ,List.drop_zero];exact h5
    ·rw[fZ (by omega)];exact .last (by simp) List.Pairwise.nil
   obtain⟨h1,h2⟩:=afY hb f (l.drop (2*bs)) (by simp; omega) hd;refine⟨.cons (by rw[pE]; simp; omega) (ic _) h1,?_⟩;have:=(Ķ (key:=đ m) (l.take (2*bs))).append h2
   rwa [dM] at this
  ·rw[if_neg hl]
   by_cases h2:bs<l.length
   ·rw[if_pos h2];exact⟨.last (by rw[pE]; omega) (ic _),Ķ _⟩
   ·rw[if_neg h2];exact⟨.last (by omega) (hc.srt (by omega)),Stb.refl _⟩
abbrev StT:=Int×Int×List Way×Int×Int×List (Val Ô)×List (Val Ä)×List (Val iC)×List (Val Ö)×List (Val Ä)×List (Val ŋ)
def stM (a b:Int) (l:List Way) (m:ő):StT:=(a,b,l,m.1.1.1,m.1.1.2,m.1.2.1,m.1.2.2.1,m.1.2.2.2.1,m.1.2.2.2.2.1,m.1.2.2.2.2.2,m.2)
def WOk.stb {l s:List Way} (h:WOk m l) (hs:Stb (đ m) l s):WOk m s:=fun x hx=>h x (hs.mem.1 hx)
def agv {xs:List Way} (hW:WOk m xs) (hn:xs.length≤100000) (K:List Way×ő→Option ρ) :
 Ê (fun(v:StT) kk=>θ (xs.length:Int) (20:Int) v.1 v.2.1 v.2.2.1 v.2.2.2.1 v.2.2.2.2.1 v.2.2.2.2.2.1 v.2.2.2.2.2.2.1 v.2.2.2.2.2.2.2.1 v.2.2.2.2.2.2.2.2.1 v.2.2.2.2.2.2.2.2.2.1 v.2.2.2.2.2.2.2.2.2.2 (fun u42 u43 u44 u45 u46 u47 u48 u49 u50 u51 u52=>kk (u42,u43,u44,u45,u46,u47,u48,u49,u50,u51,u52))
  (fun z3=>Ã (ã z3.2.1 z3.1 (xs.length:Int) (((z3.2.2.1,z3.2.2.2.1),z3.2.2.2.2.1,z3.2.2.2.2.2.1,z3.2.2.2.2.2.2.1,z3.2.2.2.2.2.2.2.1,z3.2.2.2.2.2.2.2.2.1),z3.2.2.2.2.2.2.2.2.2)) fun r4=>K r4)) (stM 0 20 xs m)=K (csR m 20 (xs.length+1) xs,m):=by
 refine Ę (fun v:StT=>∃(A R:List Way) (f:Nat),v=stM (A.length:Int) ((A.length+20:Nat):Int) (A++R) m∧A++csR m 20 f R=csR m 20 (xs.length+1) xs∧R.length<f∧A.length+R.length=xs.length∧WOk m R) (fun v=>(xs.length+100)-v.1.toNat) ?_ ⟨[],xs,xs.length+1,rfl,rfl,by omega,by simp,hW⟩;rintro v ⟨A,R,f,rfl,hR,hf,hl,hWR⟩;obtain⟨f,rfl⟩:∃g,f=g+1:=⟨f-1,by omega⟩
 have e0:csR m 20 (f+1) R=if 20≤R.length then į (đ m) (R.take 20)++csR m 20 f (R.drop 20) else į (đ m) R:=rfl
 rw[e0] at hR
 by_cases h:20≤R.length
 ·have lt:(R.take 20).length=20:=by simp; omega
  have li:(į (đ m) (R.take 20)).length=20:=by rw[pE,lt]
  refine .inr ⟨stM (((A++į (đ m) (R.take 20)).length:Nat):Int) (((A++į (đ m) (R.take 20)).length+20:Nat):Int) ((A++į (đ m) (R.take 20))++R.drop 20) m,⟨_,_,f,rfl,?_,by simp; omega,by rw[cF,li]; simp; omega,hWR.sub fun x hx=>List.mem_of_mem_drop hx⟩,by simp only[stM,cF,li]; omega,fun kn=>?_⟩
  ·rw[if_pos h] at hR;rw[cN];exact hR
  ·show ifb (ile ((A.length+20:Nat):Int) (xs.length:Int)) (Ã (ã (A++R) (A.length:Int) ((A.length+20:Nat):Int) m) fun r1=>ck (((A.length+20:Nat):Int)+(20:Int)) fun n2=>kn (stM ((A.length+20:Nat):Int) n2 r1.1 r1.2)) _=_;have:=G7 (m:=m) (P:=A) (M:=R.take 20) (Q:=R.drop 20) (hWR.sub fun x hx=>fL hx) (by omega);rw[dM,lt] at this;rw[Ù (decide_eq_true (by omega)),this,À,Ó (by omega) (by omega)];congr 1;rw[cF,li,cN];rfl
 ·refine .inl fun kn=>?_;show ifb (ile ((A.length+20:Nat):Int) (xs.length:Int)) _ (Ã (ã (A++R) (A.length:Int) (xs.length:Int) m) fun r4=>K r4)=_;have:=G7 (m:=m) (P:=A) (M:=R) (Q:=[]) hWR (by omega);rw[cY,hl] at this;rw[Ì (decide_eq_false (by omega)),this,À];rw[if_neg h] at hR;rw[←hR,cY]
def agu {xs:List Way} {bs:Nat} (hb:1≤bs) (hb2:bs≤200000) (hc:Chs m bs xs) (hW:WOk m xs) (hn:xs.length≤100000) (K:List Way×ő→Option ρ) :
 Ê (fun(v:StT) kk=>ζ (xs.length:Int) (bs:Int) v.1 v.2.1 v.2.2.1 v.2.2.2.1 v.2.2.2.2.1 v.2.2.2.2.2.1 v.2.2.2.2.2.2.1 v.2.2.2.2.2.2.2.1 v.2.2.2.2.2.2.2.2.1 v.2.2.2.2.2.2.2.2.2.1 v.2.2.2.2.2.2.2.2.2.2 (fun u16 u17 u18 u19 u20 u21 u22 u23 u24 u25 u26=>kk (u16,u17,u18,u19,u20,u21,u22,u23,u24,u25,u26))
  (fun z10=>ck (z10.1+(bs:Int)) fun n11=>ifb (ilt n11 (xs.length:Int)) (Ã (ď z10.2.1 z10.1 n11 (xs.length:Int) (((z10.2.2.1,z10.2.2.2.1),z10.2.2.2.2.1,z10.2.2.2.2.2.1,z10.2.2.2.2.2.2.1,z10.2.2.2.2.2.2.2.1,z10.2.2.2.2.2.2.2.2.1),z10.2.2.2.2.2.2.2.2.2)) fun r12=>K r12) (K (z10.2.1,(((z10.2.2.1,z10.2.2.2.1),z10.2.2.2.2.1,z10.2.2.2.2.2.1,z10.2.2.2.2.2.2.1,z10.2.2.2.2.2.2.2.1,z10.2.2.2.2.2.2.2.2.1),z10.2.2.2.2.2.2.2.2.2))))) (stM 0 ((2*bs:Nat):Int) xs m)=K (mpR m bs (xs.length+1) xs,m):=by
 refine Ę (fun v:StT=>∃(A R:List Way) (f:Nat),v=stM (A.length:Int) ((A.length+2*bs:Nat):Int) (A++R) m∧A++mpR m bs f R=mpR m bs (xs.length+1) xs∧R.length<f∧A.length+R.length=xs.length∧WOk m R∧Chs m bs R) (fun v=>(xs.length+1000000)-v.1.toNat) ?_ ⟨[],xs,xs.length+1,by simp[stM],rfl,by omega,by simp,hW,hc⟩;rintro v ⟨A,R,f,rfl,hR,hf,hl,hWR,hcR⟩;obtain⟨f,rfl⟩:∃g,f=g+1:=⟨f-1,by omega⟩
 have e0:mpR m bs (f+1) R=if 2*bs≤R.length then į (đ m) (R.take (2*bs))++mpR m bs f (R.drop (2*bs)) else if bs<R.length then į (đ m) R else R:=rfl
 rw[e0] at hR
 by_cases h:2*bs≤R.length
 ·obtain⟨u,r,rfl,h1,h2,h3⟩:=hcR.split (by omega)
  have hr:bs≤r.length:=by rw[cF] at h; omega
  -- the second block
  obtain⟨u2,r2,rfl,h4,h5,h6⟩:∃u2 r2,r=u2++r2∧u2.length=bs∧Srt (đ m) u2∧Chs m bs r2:=by
   rcases fW hr with q|q
   ·exact h3.split q
   ·exact⟨r,[],by simp,q.symm,h3.srt (by omega),.last (by simp) List.Pairwise.nil⟩
  have e1:(u++(u2++r2)).take (2*bs)=u++u2:=by
   rw[←cN,fm (by simp; omega),dX (by simp; omega)]
  have e2:(u++(u2++r2)).drop (2*bs)=r2:=by
   rw[←cN,List.drop_append,fZ (by simp; omega),dN];rw[show 2*bs-(u++u2).length=0 by simp; omega];rfl
  have li:(į (đ m) (u++u2)).length=2*bs:=by rw[pE]; simp; omega
  rw[if_pos h,e1,e2] at hR;refine .inr ⟨stM (((A++į (đ m) (u++u2)).length:Nat):Int) (((A++į (đ m) (u++u2)).length+2*bs:Nat):Int) ((A++į (đ m) (u++u2))++r2) m,⟨_,_,f,rfl,by rw[cN]; exact hR,by simp at hf; omega,by rw[cF,li]; simp at hl; omega,hWR.sub fun x hx=>by simp[hx],h6⟩,by simp only[stM,cF,li]; omega,fun kn=>?_⟩;show ifb (ile ((A.length+2*bs:Nat):Int) (xs.length:Int)) (ck ((A.length:Int)+(bs:Int)) fun n6=>Ã (ď (A++(u++(u2++r2))) (A.length:Int) n6 ((A.length+2*bs:Nat):Int) m) fun r7=>ck ((2:Int)*(bs:Int)) fun n8=>ck (((A.length+2*bs:Nat):Int)+n8) fun n9=>kn (stM ((A.length+2*bs:Nat):Int) n9 r7.1 r7.2)) _=_
  have:=IR (m:=m) (P:=A) (U:=u) (V:=u2) (Q:=r2) (by omega) (by omega) h2 h5 (hWR.sub fun x hx=>by rcases cG.1 hx with hx|hx<;>simp[hx]) (by omega)
  rw[h1,h4] at this;rw[List.length_append,List.length_append] at hl;rw[Ù (decide_eq_true (by omega)),Ó (by omega) (by omega),show(A.length:Int)+(bs:Int)=((A.length+bs:Nat):Int) by omega,show((A.length+2*bs:Nat):Int)=((A.length+bs+bs:Nat):Int) by omega,this,À,Ó (by omega) (by omega),Ó (by omega) (by omega)];congr 1;unfold stM;rw[List.length_append,li,List.append_assoc];refine Prod.ext (by dsimp only; omega) (Prod.ext (by dsimp only; omega) rfl)
 ·refine .inl fun kn=>?_;rw[if_neg h] at hR;show ifb (ile ((A.length+2*bs:Nat):Int) (xs.length:Int)) _ (ck ((A.length:Int)+(bs:Int)) fun n11=>ifb (ilt n11 (xs.length:Int)) (Ã (ď (A++R) (A.length:Int) n11 (xs.length:Int) m) fun r12=>K r12) (K (A++R,m)))=_;rw[Ì (decide_eq_false (by omega)),Ó (by omega) (by omega)]
  by_cases h2:bs<R.length
  ·rw[if_pos h2] at hR;obtain⟨u,r,rfl,h1,h3,h4⟩:=hcR.split h2;have:=IR (m:=m) (P:=A) (U:=u) (V:=r) (Q:=[]) (by omega) (by rw[cF] at h2; omega) h3 (h4.srt (by rw[cF] at h; omega)) hWR (by rw[cF] at hl; omega);rw[cY,cY,show A.length+u.length+r.length=xs.length by rw[cF] at hl; omega] at this;rw[Ù (decide_eq_true (by omega)),show(A.length:Int)+(bs:Int)=((A.length+u.length:Nat):Int) by omega,this,À,hR]
  ·rw[if_neg h2] at hR;rw[Ì (decide_eq_false (by omega)),hR]
abbrev StQ:=Int×List Way×Int×Int×List (Val Ô)×List (Val Ä)×List (Val iC)×List (Val Ö)×List (Val Ä)×List (Val ŋ)
def stQ (b:Int) (l:List Way) (m:ő):StQ:=(b,l,m.1.1.1,m.1.1.2,m.1.2.1,m.1.2.2.1,m.1.2.2.2.1,m.1.2.2.2.2.1,m.1.2.2.2.2.2,m.2)
def abm {xs:List Way} (hW:WOk m xs) (hn:xs.length≤100000):ī xs (xs.length:Int) m=some (į (đ m) xs,m):=by
 unfold ī iI;refine(agv hW hn (fun r4=>Ê (fun(v29:StQ) kk40=>η (xs.length:Int) v29.1 v29.2.1 v29.2.2.1 v29.2.2.2.1 v29.2.2.2.2.1 v29.2.2.2.2.2.1 v29.2.2.2.2.2.2.1 v29.2.2.2.2.2.2.2.1 v29.2.2.2.2.2.2.2.2.1 v29.2.2.2.2.2.2.2.2.2 (fun u30 u31 u32 u33 u34 u35 u36 u37 u38 u39=>kk40 (u30,u31,u32,u33,u34,u35,u36,u37,u38,u39)) (fun z28=>some (z28.1,(((z28.2.1,z28.2.2.1),z28.2.2.2.1,z28.2.2.2.2.1,z28.2.2.2.2.2.1,z28.2.2.2.2.2.2.1,z28.2.2.2.2.2.2.2.1),z28.2.2.2.2.2.2.2.2)))) (stQ (20:Int) r4.1 r4.2))).trans ?_;obtain⟨c1,c2⟩:=af9 (m:=m) (bs:=20) (by omega) (xs.length+1) xs (by omega);refine Ę (fun v:StQ=>∃(bs:Nat) (l:List Way),1≤bs∧bs≤200000∧v=stQ (bs:Int) l m∧Chs m bs l∧Stb (đ m) xs l) (fun v=>400000-v.1.toNat) ?_ ⟨20,_,by omega,by omega,rfl,c1,c2⟩;rintro v ⟨bs,l,hb,hb2,rfl,hc,hs⟩;have hl:=hs.length
 by_cases h:bs<xs.length
 ·obtain⟨d1,d2⟩:=afY hb (l.length+1) l (by omega) hc;refine .inr ⟨stQ ((2*bs:Nat):Int) (mpR m bs (l.length+1) l) m,⟨2*bs,_,by omega,by omega,rfl,d1,hs.trans d2⟩,by simp only[stQ]; omega,fun kn=>?_⟩;have:=agu (m:=m) (xs:=l) hb hb2 hc (hW.stb hs) (by omega) (fun r=>ck ((bs:Int)*(2:Int)) fun n13=>kn (stQ n13 r.1 r.2));rw[hl] at this;show ifb (ilt (bs:Int) (xs.length:Int)) (ck ((2:Int)*(bs:Int)) fun n5=>_) _=_;rw[Ù (decide_eq_true (by omega)),Ó (by omega) (by omega),show(2:Int)*(bs:Int)=((2*bs:Nat):Int) by push_cast; rfl];rw[hl];refine eh ?_ (this.trans ?_)
  ·rfl
  ·rw[Ó (by omega) (by omega)];congr 2;omega
 ·refine .inl fun kn=>?_;show ifb (ilt (bs:Int) (xs.length:Int)) _ (some (l,m))=_;rw[Ì (decide_eq_false (by omega)),uY (hc.srt (by omega)) hs]
end
abbrev Mx:=Int×List Int
def Ĩ:List Mx→Way→Prop
 |[],[]=>True
 |m::ms,l::ls=>l.Perm m.2∧Ĩ ms ls
 |_,_=>False
def Ĩ.len:∀{ms:List Mx} {w:Way},Ĩ ms w→w.length=ms.length
 |[],[],_=>rfl
 |m::ms,l::ls,h=>by simp[h.2.len]
def Ĩ.at:∀{ms:List Mx} {w:Way} {i:Nat} {m:Mx},Ĩ ms w→ms[i]?=some m→∃l,w[i]?=some l∧l.Perm m.2
 |[],_,i,_,_,h=>by simp at h
 |m::ms,l::ls,0,x,h,hx=>by
  simp at hx; subst hx;exact⟨l,rfl,h.1⟩
 |m::ms,l::ls,i+1,x,h,hx=>by
  simp only[fq] at hx ⊢;exact h.2.at hx
def stp (d:Int) (m:Mx) (l:List Int) (x:Int):Int :=
 if m.1<d then match l.findIdx? (·==x) with|some k=>m.2.getD k 0|none=>x else x
def gM:List Mx→Way→Int→Int→Int
 |m::ms,l::ls,x,d=>stp d m l (gM ms ls x d)
 |_,_,x,_=>x
def aee {ms:List Mx} {w:Way} {i:Nat} {m:Mx} {l:List Int} (hm:ms[i]?=some m) (hl:w[i]?=some l) (x d:Int):gM (ms.drop i) (w.drop i) x d=stp d m l (gM (ms.drop (i+1)) (w.drop (i+1)) x d):=by
 obtain⟨h1,rfl⟩:=cE.1 hm;obtain⟨h2,rfl⟩:=cE.1 hl;rw[dv h1,dv h2,gM]
def who_ok {m:ő} {w:Way} (h:Ĩ m.2 w) (hn:m.2.length≤1000) (hl:∀x∈m.2,x.2.length≤1000) (x d:Int):pF m w x d=some (gM m.2 w x d):=by
 unfold pF Wq;rw[Ò,Ó (by omega) (by omega)];refine Ę (fun s:Int×Int=>∃i:Nat,i≤m.2.length∧s.2=(i:Int)-1∧s.1=gM (m.2.drop i) (w.drop i) x d) (fun s=>(s.2+1).toNat) ?_ ⟨m.2.length,Nat.le_refl _,rfl,?_⟩
 ·rintro⟨s1,s2⟩ ⟨i,hi,h1,h2⟩;simp only at h1 h2;subst h1 h2
  cases i with
  |zero =>
   refine .inl fun kn=>?_
   try dsimp only
   unfold yl;rw[Ì (by simp[ige])]; rfl
  |succ i =>
   obtain⟨y,hy⟩:∃y,m.2[i]?=some y:=⟨_,cA hi⟩;obtain⟨l,hw,hp⟩:=h.at hy
   have hll:l.length≤1000:=by rw[hp.length_eq]; exact hl y (cI hy)
   have e0:((i+1:Nat):Int)-1=i:=by omega
   refine .inr ⟨(gM (m.2.drop i) (w.drop i) x d,(i:Int)-1),⟨i,by omega,rfl,rfl⟩,by simp only[e0]; omega,fun kn=>?_⟩
   try dsimp only
   unfold yl;rw[e0,Ù (by simp[ige]),È hw,VA (by omega),À,aee hy hw];unfold stp
   cases hf:l.findIdx? (·==gM (m.2.drop (i+1)) (w.drop (i+1)) x d) with
   |none =>
    dsimp only;rw[Ì (by simp[ige]),Ó (by omega) (by omega)]
    split<;>rfl
   |some k =>
    dsimp only;rw[Ù (by simp[ige]),È hy]
    have hk:k<y.2.length:=by rw[←hp.length_eq]; exact(dK.1 hf).1
    by_cases hd:y.1<d
    ·rw[Ù (by simp[ilt,hd]),È hy,È (cA hk),Ó (by omega) (by omega),if_pos hd];rw[dV,cA hk]; rfl
    ·rw[Ì (by simp[ilt,hd]),Ó (by omega) (by omega),if_neg hd]
 ·simp only[List.drop_length];rw[←h.len,List.drop_length];unfold gM;rfl
def Mm:List Int→List Int→Int
 |x::l,y::m=>(if y=x then 0 else 1)+Mm l m
 |_,_=>0
def oD:List Mx→Way→Int
 |m::ms,l::ls=>Mm l m.2+oD ms ls
 |_,_=>0
def Sn:∀{l m:List Int} {k:Nat} {x y:Int},l[k]?=some x→m[k]?=some y→Mm (l.take (k+1)) (m.take (k+1))=Mm (l.take k) (m.take k)+if y=x then 0 else 1
 |[],_,_,_,_,h,_=>by simp at h
 |_::_,[],_,_,_,_,h=>by simp at h
 |a::l,b::m,0,x,y,h1,h2=>by
  simp at h1 h2; subst h1 h2;simp[Mm]
 |a::l,b::m,k+1,x,y,h1,h2=>by
  simp only[fq] at h1 h2;have:=Sn h1 h2;simp only[gn,Mm,this]; omega
def Sl:∀{ms:List Mx} {w:Way} {k:Nat} {m:Mx} {l:List Int},ms[k]?=some m→w[k]?=some l→oD (ms.take (k+1)) (w.take (k+1))=oD (ms.take k) (w.take k)+Mm l m.2
 |[],_,_,_,_,h,_=>by simp at h
 |_::_,[],_,_,_,_,h=>by simp at h
 |a::l,b::m,0,x,y,h1,h2=>by
  simp at h1 h2; subst h1 h2;simp[oD]
 |a::l,b::m,k+1,x,y,h1,h2=>by
  simp only[fq] at h1 h2;have:=Sl h1 h2;simp only[gn,oD,this]; omega
def AM:∀l m:List Int,0≤Mm l m∧Mm l m≤m.length
 |[],m=>by simp[Mm]
 |_::_,[]=>by simp[Mm]
 |a::l,b::m=>by
  have:=AM l m;unfold Mm;simp only[List.length_cons]
  split<;>omega
def VK {n:Nat}:∀{ms:List Mx} {w:Way},(∀m∈ms,m.2.length≤n)→0≤oD ms w∧oD ms w≤(ms.length*n:Nat)
 |[],w,_=>by simp[oD]
 |m::ms,[],_=>by
  unfold oD; exact⟨Int.le_refl _,Int.natCast_nonneg _⟩
 |m::ms,l::ls,h=>by
  have h1:=AM l m.2;have h2:=h m (by simp);have h3:=VK (w:=ls) fun x hx=>h x (List.mem_cons_of_mem _ hx);unfold oD
  have:(m::ms).length*n=ms.length*n+n:=by rw[cP,Nat.succ_mul]
  omega
def agk {n:Nat} {ms:List Mx} (hn:ms.length≤1000) (hl:∀x∈ms,x.2.length≤1000) (w:Way) (i:Nat):0≤oD (ms.take i) w∧oD (ms.take i) w≤1000000:=by
 have h1:=VK (n:=1000) (ms:=ms.take i) (w:=w) fun m hm=>hl m (fL hm);have h2:(ms.take i).length*1000≤1000*1000:=di _ (by rw[cW]; omega);omega
def aa8 {m:ő} {w:Way} (h:Ĩ m.2 w) (hn:m.2.length≤1000) (hl:∀x∈m.2,x.2.length≤1000):ĥ m w=some (oD m.2 w):=by
 unfold ĥ Fc;have hlen:=h.len;refine Ę (fun s:Int×Int=>∃i:Nat,i≤w.length∧s.2=(i:Int)∧s.1=oD (m.2.take i) (w.take i)) (fun s=>w.length-s.2.toNat) ?_ ⟨0,Nat.zero_le _,rfl,by simp[oD]⟩;rintro⟨s1,s2⟩ ⟨i,hi,h1,h2⟩;simp only at h1 h2;subst h1 h2;rcases Nat.lt_or_ge i w.length with hlt|hge
 ·obtain⟨y,hy⟩:∃y,m.2[i]?=some y:=⟨_,cA (by omega)⟩;obtain⟨l,hw,hp⟩:=h.at hy
  have hll:l.length≤1000:=by rw[hp.length_eq]; exact hl y (cI hy)
  refine .inr ⟨(oD (m.2.take (i+1)) (w.take (i+1)),(i:Int)+1),⟨i+1,hlt,by simp,rfl⟩,by simp only[cQ]; omega,fun kn=>?_⟩
  try dsimp only
  unfold od;rw[Ñ hlt,È hw];have hb:=agk (n:=0) hn hl (w.take i) i;refine Ę (fun s:Int×Int=>∃k:Nat,k≤l.length∧s.2=(k:Int)∧s.1=oD (m.2.take i) (w.take i)+Mm (l.take k) (y.2.take k)) (fun s=>l.length-s.2.toNat) ?_ ⟨0,Nat.zero_le _,rfl,by simp[Mm]⟩;rintro⟨t1,t2⟩ ⟨k,hk,h1,h2⟩;simp only at h1 h2;subst h1 h2;have hb2:=AM (l.take k) (y.2.take k)
  have hb3:(y.2.take k).length≤1000:=by rw[cW]; omega
  rcases cX k l.length with hkl|hkg
  ·obtain⟨u,hu⟩:∃u,l[k]?=some u:=⟨_,cA hkl⟩;obtain⟨v,hv⟩:∃v,y.2[k]?=some v:=⟨_,cA (by rw[←hp.length_eq]; exact hkl)⟩;refine .inr ⟨(oD (m.2.take i) (w.take i)+Mm (l.take (k+1)) (y.2.take (k+1)),(k:Int)+1),⟨k+1,hkl,by simp,rfl⟩,by simp only[cQ]; omega,fun kn=>?_⟩
   try dsimp only
   unfold oc;rw[Ñ hkl,È hu,È hy,È hv,Sn hu hv]
   by_cases huv:v=u
   ·rw[Ì (by simp[ine,huv]),Ó (by omega) (by omega),if_pos huv]; simp
   ·rw[Ù (by simp[ine,huv]),Ó (by omega) (by omega),Ó (by omega) (by omega),if_neg huv,Int.add_assoc]
  ·refine .inl fun kn'=>?_
   have hk':k=l.length:=by omega
   subst hk'
   try dsimp only
   unfold oc;rw[ß];dsimp only;rw[Ó (by omega) (by omega),Sl hy hw,List.take_length,hp.length_eq,List.take_length]
 ·refine .inl fun kn=>?_
  have hk':i=w.length:=by omega
  subst hk'
  try dsimp only
  unfold od;rw[ß,List.take_length,hlen,List.take_length]
def agU (a:Int):List Int→List Int
 |[]=>[a]
 |b::t=>if a≤b then a::b::t else b::agU a t
def kJ:List Int→List Int
 |[]=>[]
 |a::t=>agU a (kJ t)
def wd (p:Option Int):List Int→List Int
 |[]=>[]
 |a::t=>if p=some a then wd (some a) t else a::wd (some a) t
def VD (l:List Int):List Int:=wd none (kJ l)
def Ll (a:Int):∀l,(agU a l).Perm (a::l)
 |[]=>List.Perm.refl _
 |b::t=>by
  unfold agU
  split
  ·exact List.Perm.refl _
  ·exact((Ll a t).cons b).trans (List.Perm.swap a b t)
def ņ:∀l,(kJ l).Perm l
 |[]=>List.Perm.refl _
 |a::t=>(Ll a _).trans ((ņ t).cons a)
def Lj (a:Int):∀{l:List Int},l.Pairwise (·≤·)→(agU a l).Pairwise (·≤·)
 |[],_=>by simp[agU]
 |b::t,h=>by
  rw[List.pairwise_cons] at h;unfold agU
  split
  ·rename_i hab;refine dk.2 ⟨fun x hx=>?_,dk.2 h⟩;rcases cH.1 hx with rfl|hx
   ·exact hab
   ·have:=h.1 x hx; omega
  ·rename_i hab;refine dk.2 ⟨fun x hx=>?_,Lj a h.2⟩;rcases cH.1 ((Ll a t).mem_iff.1 hx) with rfl|hx
   ·omega
   ·exact h.1 x hx
def i6:∀l:List Int,(kJ l).Pairwise (·≤·)
 |[]=>List.Pairwise.nil
 |a::t=>Lj a (i6 t)
def Py (l:List Int):wj l=kJ l:=by
 have h1:(wj l).Pairwise (·≤·):=by
  have:=List.pairwise_mergeSort (le:=fun a b:Int=>decide (a≤b)) (fun a b c h1 h2=>by simp at *; omega) (fun a b=>by simp; omega) l
  exact this.imp fun h=>by simpa using h
 exact gw (le:=(·≤·)) (fun a b _ _ h1 h2=>by omega) h1 (i6 l) ((List.mergeSort_perm l _).trans (ņ l).symm)
def N4 (a:Int):∀(l:List Int) (p:Option Int),wd p (l++[a])=wd p l++(if (match l.getLast? with|some b=>some b|none=>p)=some a then[] else[a])
 |[],p=>by simp only[dN,wd,List.getLast?_nil]; rfl
 |b::t,p=>by
  have ih:=N4 a t (some b)
  have e:(match (b::t).getLast? with|some c=>some c|none=>p)=(match t.getLast? with|some c=>some c|none=>some b):=by
   cases t with
   |nil=>rfl
   |cons c t =>
    rw[List.getLast?_cons_cons]
    cases h:(c::t).getLast? with
    |none=>simp at h
    |some x=>rfl
  rw[e];simp only[eV,wd,ih]
  split<;>simp
def AF (l:List Int):∀m,m≤l.length→Lib.compactUpTo l.toArray m=wd none (l.take m)
 |0,_=>by simp[Lib.compactUpTo,wd]
 |m+1,h=>by
  have hm:m<l.length:=h;rw[Lib.compactUpTo_succ,AF l m (by omega),take_succ (cA hm),N4];congr 1
  have e1:l.toArray[m]! = l[m]:=by simp[getElem!_pos,hm]
  rw[e1];unfold Lib.keeps;rw[e1]
  cases m with
  |zero=>simp
  |succ m =>
   have hm':m<l.length:=by omega
   have e2:l.toArray[m+1-1]! = l[m]:=by simp[getElem!_pos,hm']
   rw[e2]
   have e3:(l.take (m+1)).getLast?=some l[m]:=by rw[take_succ (cA hm'),List.getLast?_append]; rfl
   rw[e3]
   by_cases hne:l[m+1]=l[m]
   ·simp[hne]
   ·have:¬l[m]=l[m+1]:=fun h=>hne h.symm;simp[hne,this]
def Xy (l:List Int):yO l=wd none l:=by
 unfold yO Lib.compact;rw[AF l l.length (Nat.le_refl _),List.take_length]
def abu (l:List Int):yO (wj l)=VD l:=by rw[Py,Xy]; rfl
def Sz:∀{l:List Int} {p:Option Int} {x:Int},p≠some x→(x∈wd p l↔x∈l)
 |[],_,_,_=>Iff.rfl
 |a::t,p,x,hp=>by
  unfold wd
  by_cases hx:x=a
  ·subst hx;rw[if_neg hp]; simp
  ·have ih:=Sz (l:=t) (p:=some a) (x:=x) (fun e=>hx (by cases e; rfl))
   split<;>simp[ih,hx]
def X5:∀{l:List Int} {p:Option Int},l.Pairwise (·≤·)→(∀q,p=some q→∀x∈l,q≤x)→(wd p l).Pairwise (·<·)∧∀q,p=some q→∀x∈wd p l,q<x
 |[],p,_,_=>⟨List.Pairwise.nil,fun _ _ _ h=>by cases h⟩
 |a::t,p,h,hp=>by
  rw[List.pairwise_cons] at h;obtain⟨i1,i2⟩:=X5 (l:=t) (p:=some a) h.2 (fun q hq x hx=>by cases hq; exact h.1 x hx);unfold wd
  split
  ·rename_i e;exact⟨i1,fun q hq x hx=>by rw[e] at hq; cases hq; exact i2 _ rfl x hx⟩
  ·rename_i e;refine⟨dk.2 ⟨fun x hx=>i2 _ rfl x hx,i1⟩,fun q hq x hx=>?_⟩;have:=hp q hq a (by simp);have hne:q≠a:=fun h=>e (by rw[hq,h]);rcases cH.1 hx with rfl|hx
   ·omega
   ·have:=i2 _ rfl x hx; omega
def Cc {l:List Int} {x:Int}:x∈VD l↔x∈l:=by
 unfold VD;rw[Sz (by simp),(ņ l).mem_iff]
def VX (l:List Int):(VD l).Pairwise (·<·):=(X5 (i6 l) (fun q hq=>by cases hq)).1
def SB:∀(l:List Int) (p:Option Int),(wd p l).length≤l.length
 |[],_=>cB _
 |a::t,p=>by
  have:=SB t (some a);unfold wd
  split<;>simp<;>omega
def Ik (l:List Int):(VD l).length≤l.length:=by
 unfold VD;have:=SB (kJ l) none
 rwa [(ņ l).length_eq] at this
def ahq {l m:List Int} (hl:l.Pairwise (·<·)) (hm:m.Pairwise (·<·)) (h:∀x,x∈l↔x∈m):l=m:=by
 induction l generalizing m with
 |nil =>
  cases m with
  |nil=>rfl
  |cons a t=>have:=(h a).2 (by simp); cases this
 |cons a t ih =>
  rw[dk] at hl
  cases m with
  |nil=>have:=(h a).1 (by simp); cases this
  |cons b u =>
   rw[dk] at hm
   have hab:a=b:=by
    rcases cH.1 ((h a).1 (by simp)) with h1|h1
    ·exact h1
    ·rcases cH.1 ((h b).2 (by simp)) with h2|h2
     ·exact h2.symm
     ·have:=hm.1 a h1; have:=hl.1 b h2; omega
   subst hab;rw[ih hl.2 hm.2 fun x=>?_];constructor
   ·intro hx;rcases cH.1 ((h x).1 (by simp[hx])) with h1|h1
    ·have:=hl.1 x hx; omega
    ·exact h1
   ·intro hx;rcases cH.1 ((h x).2 (by simp[hx])) with h1|h1
    ·have:=hm.1 x hx; omega
    ·exact h1
def wq (b:Ğ) (s:List (Int×õ)) (c:Cmp):Int :=
 if (c.2.2.1++c.2.2.2.1).any (fun id=>mD s id c.2.1==5) then 5 else
 if (c.2.2.1++c.2.2.2.1).any (fun id=>mD s id c.2.1==4) then 4 else
 if (c.2.2.1++c.2.2.2.1).any (fun id=>(lh b id c.2.1).isSome) then 9 else
 if 1<(ý c.2.2.1 c.2.2.2.1).length then 1 else if 1<(ý c.2.2.2.1 c.2.2.1).length then 1 else
 if (ý c.2.2.1 c.2.2.2.1).length+(ý c.2.2.2.1 c.2.2.1).length=0 then 1 else 0
def Z2 (c:Cmp):Bool :=
 inP c.1 1 1099511627776&&(LQ c.2.1&&(inP c.2.2.2.2.1 (-1125899906842624) 1125899906842624&&(inP c.2.2.2.2.2.1 0 1073741824&&(nS c.2.2.2.2.2.2 (-10000) 10000&&(vN c.2.2.1&&vN c.2.2.2.1)))))
def oy (b:Ğ) (s:List (Int×õ)) (i:Nat) (c:Cmp):Int :=
 if !Z2 c then 1 else if (b.2.2.2.2.1.take i).any (fun x=>x.1==c.1) then 6 else wq b s c
def DS (a b:List Int):(ý a b).length≤a.length:=dY _ _
set_option maxHeartbeats 1000000 in
def LY {b:Ğ} (hn:b.2.2.2.2.1.length≤1000) (hl:b.2.2.2.1.length≤1000) (s:List (Int×õ)) {i:Nat} {c:Cmp} (hA:c.2.2.1.length≤1000) (hB:c.2.2.2.1.length≤1000)
 (hc:b.2.2.2.2.1[i]?=some c):ł b s i=some (oy b s i c):=by
 have hi:i<b.2.2.2.2.1.length:=(List.getElem?_eq_some_iff.1 hc).1;unfold ł nH oy Z2;rw[È hc,Φ,À]
 cases inP c.1 1 1099511627776 with
 |false=>rfl
 |true =>
 rw[Iy,À]
 cases LQ c.2.1 with
 |false=>rfl
 |true =>
 rw[Φ,À]
 cases inP c.2.2.2.2.1 (-1125899906842624) 1125899906842624 with
 |false=>rfl
 |true =>
 rw[Φ,À]
 cases inP c.2.2.2.2.2.1 0 1073741824 with
 |false=>rfl
 |true =>
 rw[DY,À]
 cases nS c.2.2.2.2.2.2 (-10000) 10000 with
 |false=>rfl
 |true =>
 rw[DX (by omega),À]
 cases vN c.2.2.1 with
 |false=>rfl
 |true =>
 rw[DX (by omega),À]
 cases vN c.2.2.2.1 with
 |false=>rfl
 |true =>
 have hg:((ile (0:Int) (i:Int))&&(ile (i:Int) (ñ b.2.2.2.2.1)))=true:=by simp[ile,ñ]; omega
 simp only[dA,é,Bool.and_self,cS,if_false];rw[Đ hg,cQ]
 -- what comes behind the IDs
 have rest:(Ã (Ĥ ([c.2.2.1,c.2.2.2.1])) fun r12=>Ê (fun(v36:Int) kk38=>ń s r12 (Ø ([(5:Int),(4:Int)])) c.2.1 ([(5:Int),(4:Int)]) v36 (fun u37=>kk38 u37) (fun z23=>some z23) (fun _=>Ê (fun(v33:Int) kk35=>Ń r12 (Ø r12) b.1.1 b.1.2 b.2.1 b.2.2.1 b.2.2.2.1 b.2.2.2.2.1 b.2.2.2.2.2 c.2.1 v33 (fun u34=>kk35 u34) (fun z28=>some z28) (fun _=>Ã (Γ c.2.2.1 c.2.2.2.1) fun r30=>Ã (Γ c.2.2.2.1 c.2.2.1) fun r31=>ifb (igt (Ø r30) (1:Int)) (some (1:Int)) (ifb (igt (Ø r31) (1:Int)) (some (1:Int)) (ck ((Ø r30)+(Ø r31)) fun n32=>ifb (ieq n32 (0:Int)) (some (1:Int)) (some (0:Int)))))) (0:Int))) (0:Int))=some (wq b s c):=by
  rw[Ml (by omega) (by omega),À]
  have hall:(c.2.2.1++c.2.2.2.1).length≤2000:=by simp; omega
  have last:(Ã (Γ c.2.2.1 c.2.2.2.1) fun r30=>Ã (Γ c.2.2.2.1 c.2.2.1) fun r31=>ifb (igt (Ø r30) (1:Int)) (some (1:Int)) (ifb (igt (Ø r31) (1:Int)) (some (1:Int)) (ck ((Ø r30)+(Ø r31)) fun n32=>ifb (ieq n32 (0:Int)) (some (1:Int)) (some (0:Int))))) =
   some (if 1<(ý c.2.2.1 c.2.2.2.1).length then 1 else if 1<(ý c.2.2.2.1 c.2.2.1).length then 1 else if (ý c.2.2.1 c.2.2.2.1).length+(ý c.2.2.2.1 c.2.2.1).length=0 then 1 else 0):=by
   rw[xH (by omega) (by omega),À,xH (by omega) (by omega),À];have l1:=DS c.2.2.1 c.2.2.2.1;have l2:=DS c.2.2.2.1 c.2.2.1;rw[Ò,Ò,Ó (by omega) (by omega)]
   by_cases c1:1<(ý c.2.2.1 c.2.2.2.1).length
   ·rw[Ù (by simp[igt]; omega),if_pos c1]
   rw[Ì (by simp[igt]; omega),if_neg c1]
   by_cases c2:1<(ý c.2.2.2.1 c.2.2.1).length
   ·rw[Ù (by simp[igt]; omega),if_pos c2]
   rw[Ì (by simp[igt]; omega),if_neg c2]
   by_cases c3:(ý c.2.2.1 c.2.2.2.1).length+(ý c.2.2.2.1 c.2.2.1).length=0
   ·rw[Ù (by simp[ieq]; omega),if_pos c3]
   rw[Ì (by simp[ieq]; omega),if_neg c3]
  refine eh (jZ [(5:Int),4] (fun _ want=>if (c.2.2.1++c.2.2.2.1).any (fun id=>mD s id c.2.1==want) then some want else none) some (some (if (c.2.2.1++c.2.2.2.1).any (fun id=>(lh b id c.2.1).isSome) then 9 else if 1<(ý c.2.2.1 c.2.2.2.1).length then 1 else if 1<(ý c.2.2.2.1 c.2.2.1).length then 1 else if (ý c.2.2.1 c.2.2.2.1).length+(ý c.2.2.2.1 c.2.2.1).length=0 then 1 else 0)) (fun j want hj hw kn=>?_) (fun kn=>?_)) ?_
  ·try dsimp only
   unfold ń;rw[Ñ hj,š hj,Ė hw];refine Eq.trans (Š (c.2.2.1++c.2.2.2.1) (fun id=>mD s id c.2.1==want) (fun _=>some want) (some want) (kn ((j:Int)+1)) (fun _=>rfl) (fun k a hk ha kn'=>?_) (fun kn'=>?_)) ?_
   ·try dsimp only
    unfold gY;rw[Ñ hk,È ha,Wn,À,Ë hk (by omega),Č]
   ·try dsimp only
    unfold gY;rw[ß,Ë hj (by simp)]
   ·cases List.any (c.2.2.1++c.2.2.2.1) (fun id=>mD s id c.2.1==want)<;>rfl
  ·try dsimp only
   unfold ń;rw[ß];refine Eq.trans (Š (c.2.2.1++c.2.2.2.1) (fun id=>(lh b id c.2.1).isSome) (fun _=>some 9) (some 9) (some (if 1<(ý c.2.2.1 c.2.2.2.1).length then 1 else if 1<(ý c.2.2.2.1 c.2.2.1).length then 1 else if (ý c.2.2.1 c.2.2.2.1).length+(ý c.2.2.2.1 c.2.2.1).length=0 then 1 else 0)) (fun _=>rfl) (fun k a hk ha kn'=>?_) (fun kn'=>?_)) ?_
   ·try dsimp only
    unfold Ń;have haw:=adS hl a c.2.1;rw[Ñ hk,È ha,Ë hk (by omega)];rw[show vm ((b.1.1,b.1.2),b.2.1,b.2.2.1,b.2.2.2.1,b.2.2.2.2.1,b.2.2.2.2.2) a c.2.1=vm b a c.2.1 from rfl,haw,À]
    cases lh b a c.2.1<;>rfl
   ·try dsimp only
    unfold Ń;rw[ß,last]
   ·cases List.any (c.2.2.1++c.2.2.2.1) (fun id=>(lh b id c.2.1).isSome)<;>rfl
  ·unfold wq ķ ķ ķ
   try dsimp only
   cases List.any (c.2.2.1++c.2.2.2.1) (fun id=>mD s id c.2.1==5) with
   |true=>rfl
   |false =>
   cases List.any (c.2.2.1++c.2.2.2.1) (fun id=>mD s id c.2.1==4)<;>rfl
 refine eh (Š (b.2.2.2.2.1.take i) (fun x=>x.1==c.1) (fun z11=>ifb (ige z11 (0:Int)) (some 6) (some (wq b s c))) (some 6) (some (wq b s c)) (fun j=>?_) (fun j a hj ha kn=>?_) (fun kn=>?_)) ?_
 ·have:ige (j:Int) 0=true:=by simp[ige]
  rw[Ù this]
 ·try dsimp only
  unfold gZ;rw[rest,Ñ hj,È ha,Ë hj (by rw[List.length_take]; omega),Č]
 ·try dsimp only
  unfold gZ;rw[ß,rest]
 ·cases List.any (b.2.2.2.2.1.take i) (fun x=>x.1==c.1)<;>rfl
def U7 (b:Ğ) (g:õ):List Int :=
 [g.2.1]++(b.2.2.2.2.1.filter fun c=>!(c.2.2.1.contains g.1==c.2.2.2.1.contains g.1)).map (fun c=>c.2.1)++(b.2.2.2.2.2.filter fun n=>n.1==g.1).map (fun n=>n.2)
def å (b:Ğ) (g:õ):List Int:=VD (U7 b g)
structure vL (b:Ğ):Prop where
 gauges:b.2.1.length≤1000
 uses:b.2.2.1.length≤1000
 loans:b.2.2.2.1.length≤1000
 compares:b.2.2.2.2.1.length≤1000
 looks:b.2.2.2.2.2.length≤1000
 piles:∀c∈b.2.2.2.2.1,c.2.2.1.length≤1000∧c.2.2.2.1.length≤1000
def SJ (l:List Int):(wj l).length=l.length:=List.length_mergeSort l
def U6 {b:Ğ} (hs:vL b) (g:õ):(U7 b g).length≤2001:=by
 have h1:=hs.compares;have h2:=hs.looks;have h3:=dY (fun c:Cmp=>!(c.2.2.1.contains g.1==c.2.2.2.1.contains g.1)) b.2.2.2.2.1;have h4:=dY (fun n:Int×Int=>n.1==g.1) b.2.2.2.2.2;simp only[U7,cF,dz,dC];omega
def ac3 {b:Ğ} (hs:vL b) (g:õ):ox b g=some (å b g):=by
 unfold ox Re;have hr:=U6 hs g
 have hd:(å b g).length≤2001:=by
  unfold å;have:=Ik (U7 b g);omega
 have hcl:=hs.compares;have hll:=hs.looks;refine ģ b.2.2.2.2.1 (fun i=>[g.2.1]++((b.2.2.2.2.1.take i).filter fun c=>!(c.2.2.1.contains g.1==c.2.2.2.1.contains g.1)).map (fun c=>c.2.1)) _ rfl (fun i c hi hc kn=>?_) (fun kn=>?_)
 ·try dsimp only
  unfold uR;obtain⟨p1,p2⟩:=hs.piles c (List.mem_of_getElem? hc);rw[Ñ hi,È hc,Œ (by omega),À,Œ (by omega),À,Ë hi (by omega),Ë hi (by omega),take_succ hc,List.filter_append,List.map_append]
  have hlen:([g.2.1]++((b.2.2.2.2.1.take i).filter fun c=>!(c.2.2.1.contains g.1==c.2.2.2.1.contains g.1)).map (fun c=>c.2.1)).length≤1001:=by
   have h3:=dY (fun c:Cmp=>!(c.2.2.1.contains g.1==c.2.2.2.1.contains g.1)) (b.2.2.2.2.1.take i);rw[cW] at h3;simp only[cF,dz,dC];omega
  rw[Û (by simp only[dC]; omega),Am.iff_true]
  cases h:(c.2.2.1.contains g.1==c.2.2.2.1.contains g.1) with
  |true=>simp only[dA,é,eo,h,cS,if_false,fj,fg,cY]
  |false=>simp only[eZ,oo,eo,h,if_true,fj,d8,fg,cN]
 ·try dsimp only
  unfold uR;rw[ß,List.take_length];refine ģ b.2.2.2.2.2 (fun i=>[g.2.1]++(b.2.2.2.2.1.filter fun c=>!(c.2.2.1.contains g.1==c.2.2.2.1.contains g.1)).map (fun c=>c.2.1)++((b.2.2.2.2.2.take i).filter fun n=>n.1==g.1).map (fun n=>n.2)) _ (by simp) (fun i n hi hn kn=>?_) (fun kn=>?_)
  ·try dsimp only
   unfold uQ;rw[Ñ hi,È hn,Ë hi (by omega),Ë hi (by omega),take_succ hn,List.filter_append,List.map_append]
   have hlen:([g.2.1]++(b.2.2.2.2.1.filter fun c=>!(c.2.2.1.contains g.1==c.2.2.2.1.contains g.1)).map (fun c=>c.2.1)++((b.2.2.2.2.2.take i).filter fun n=>n.1==g.1).map (fun n=>n.2)).length≤2001:=by
    have h3:=dY (fun c:Cmp=>!(c.2.2.1.contains g.1==c.2.2.2.1.contains g.1)) b.2.2.2.2.1;have h4:=dY (fun n:Int×Int=>n.1==g.1) (b.2.2.2.2.2.take i);rw[cW] at h4;simp only[cF,dz,dC];omega
   rw[Û (by simp only[dC]; omega),Am.iff_true]
   cases h:(n.1==g.1) with
   |true =>
    have:ieq n.1 g.1=true:=h;simp[h,this]
   |false =>
    have:ieq n.1 g.1=false:=h;simp[h,this]
  ·try dsimp only
   unfold uQ;rw[ß,List.take_length];rw[show([g.2.1]++(b.2.2.2.2.1.filter fun c=>!(c.2.2.1.contains g.1==c.2.2.2.1.contains g.1)).map (fun c=>c.2.1)++(b.2.2.2.2.2.filter fun n=>n.1==g.1).map (fun n=>n.2))=U7 b g from rfl];dsimp only;rw[Û (by omega),Am.iff_true,Û (by rw[SJ]; omega),Am.iff_true,abu];rfl
def Ú (b:Ğ):List (Int×Int):=b.2.1.flatMap fun g=>(å b g).map fun d=>((g.1,d):Int×Int)
def LP {b:Ğ} (hs:vL b) (g:õ):(å b g).length≤2001:=by
 unfold å;have:=Ik (U7 b g);have:=U6 hs g;omega
def BQ {α β:Type} (f:α→List β) (n:Nat) (h:∀a,(f a).length≤n):∀l:List α,(l.flatMap f).length≤l.length*n
 |[]=>by simp
 |a::l=>by
  have:=BQ f n h l;have:=h a;simp only[dw,cF,cP,df,eS];omega
def PS {b:Ğ} (hs:vL b):pK b=some (Ú b):=by
 unfold pK KR;have hg:=hs.gauges
 have hlen:∀l:List õ,(l.flatMap fun g=>(å b g).map fun d=>((g.1,d):Int×Int)).length≤l.length*2001:=fun l =>
  BQ _ 2001 (fun g=>by rw[dz]; exact LP hs g) l
 refine ģ b.2.1 (fun i=>(b.2.1.take i).flatMap fun g=>(å b g).map fun d=>((g.1,d):Int×Int)) _ rfl (fun i g hi hg' kn=>?_) (fun kn=>?_)
 ·try dsimp only
  unfold rc;rw[Ñ hi,È hg'];rw[show ox ((b.1.1,b.1.2),b.2.1,b.2.2.1,b.2.2.2.1,b.2.2.2.2.1,b.2.2.2.2.2) g=ox b g from rfl,ac3 hs,À];have hd:=LP hs g;have hi2:=hlen (b.2.1.take i)
  have htl:(b.2.1.take i).length≤1000:=by rw[cW]; omega
  refine ģ (å b g) (fun j=>((b.2.1.take i).flatMap fun g=>(å b g).map fun d=>((g.1,d):Int×Int))++((å b g).take j).map fun d=>((g.1,d):Int×Int)) _ (by simp) (fun j d hj hd' kn'=>?_) (fun kn'=>?_)
  ·try dsimp only
   unfold qZ;rw[Ñ hj,È hd',Ë hj (by omega),take_succ hd',List.map_append];rw[Û (by simp only[List.length_append,List.length_map,List.length_take,List.length_singleton]; omega),Am.iff_true];simp
  ·try dsimp only
   unfold qZ;rw[ß,List.take_length];dsimp only;rw[Ë hi (by omega),take_succ hg',List.flatMap_append];simp
 ·try dsimp only
  unfold rc;rw[ß,List.take_length];rfl
def GD (b:Ğ) (s:List (Int×õ)):List Int :=
 b.2.2.1.map (fun u=>abc s u.1 u.2)++(b.2.2.2.1.mapIdx (fun i l=>Rp b s i l)++(b.2.2.2.2.1.mapIdx (fun i c=>oy b s i c)++b.2.2.2.2.2.map (fun u=>abc s u.1 u.2)))
def TF {α:Type} {f:Int→Option Int} {g:Nat→α→Int} (l:List α) (h:∀(i:Nat) (a:α),l[i]?=some a→f i=some (g i a)):Jo f (vZ l.length)=some (l.mapIdx g):=by
 have h1:∀i,i<l.length→f (i:Int)=some ((l.mapIdx g)[i]?.getD 0):=by
  intro i hi;rw[h i l[i] (cA hi)];simp[hi]
 have h2:∀x∈vZ l.length,f x=some ((l.mapIdx g)[x.toNat]?.getD 0):=by
  intro x hx;unfold vZ at hx;obtain⟨i,hi,rfl⟩:=List.mem_map.1 hx;rw[h1 i (by simpa using hi)];rfl
 rw[Ct h2];congr 1;refine List.ext_getElem (by simp[vZ]) fun i h3 h4=>?_
 have h5:i<l.length:=by simpa using h4
 simp[vZ,h5]
def aeB {b:Ğ} (hs:vL b) (s:List (Int×õ)):nh b s=some (GD b s):=by
 unfold nh GD
 rw[Ct (fun u _=>S8 s u.1 u.2),À,TF b.2.2.2.1 (fun i l hl=>Vf hs.loans hs.uses s hl),À,
  TF b.2.2.2.2.1 (fun i c hc=>LY hs.compares hs.loans s (hs.piles c (cI hc)).1 (hs.piles c (cI hc)).2 hc),À,Ct (fun u _=>S8 s u.1 u.2),À]
def ű (b:Ğ):Int :=
 if !nS b.1 0 1000000 then 1 else
 if 12<b.2.1.length then 2 else if 40<b.2.2.1.length then 2 else if 12<b.2.2.2.1.length then 2 else if 40<b.2.2.2.2.1.length then 2 else if 10<b.2.2.2.2.2.length then 2 else
 if nJ b != 0 then nJ b else
 match (GD b (iz b)).find? (fun e=>e != 0) with
 |some e=>e
 |none=>if 59<(Ú b).length then 2 else if 300<2*b.2.1.length+2*((Ú b).length-b.2.1.length:Int)+2*b.2.2.2.2.1.length then 2 else 0
def Ow {b:Ğ} (hs:vL b):(Ú b).length≤2001000:=by
 have:=BQ (fun g:õ=>(å b g).map fun d=>((g.1,d):Int×Int)) 2001 (fun g=>by rw[List.length_map]; exact LP hs g) b.2.1;have h2:=hs.gauges;unfold Ú;omega
def yU {b:Ğ} (hs:vL b) (hr:∀g∈b.2.1,I64 g.2.2.2.2.1.1):Ε b=some (ű b):=by
 unfold Ε K7 ű;rw[DY,À]
 cases nS b.1 0 1000000 with
 |false=>rfl
 |true =>
 have h1:=hs.gauges;have h2:=hs.compares;have h3:=Ow hs;rw[Ì (show(!true)=false from rfl),if_neg (by simp)];simp only[Ò]
 by_cases c0:12<b.2.1.length
 ·rw[Ù (by simp[igt]; omega),if_pos c0]
 rw[Ì (by simp[igt]; omega),if_neg c0]
 by_cases c1:40<b.2.2.1.length
 ·rw[Ù (by simp[igt]; omega),if_pos c1]
 rw[Ì (by simp[igt]; omega),if_neg c1]
 by_cases c2:12<b.2.2.2.1.length
 ·rw[Ù (by simp[igt]; omega),if_pos c2]
 rw[Ì (by simp[igt]; omega),if_neg c2]
 by_cases c3:40<b.2.2.2.2.1.length
 ·rw[Ù (by simp[igt]; omega),if_pos c3]
 rw[Ì (by simp[igt]; omega),if_neg c3]
 by_cases c4:10<b.2.2.2.2.2.length
 ·rw[Ù (by simp[igt]; omega),if_pos c4]
 rw[Ì (by simp[igt]; omega),if_neg c4];rw[NW hr h1,À]
 cases hm:(nJ b != 0) with
 |true =>
  have:ine (nJ b) 0=true:=hm;rw[Ù this,if_pos rfl]
 |false =>
 have:ine (nJ b) 0=false:=hm;rw[Ì this,if_neg (by simp)];rw[EO h1,À];unfold SV;rw[aeB hs,À]
 cases(GD b (iz b)).find? (fun e=>e != 0) with
 |some e=>rfl
 |none =>
 dsimp only;rw[PS hs,À]
 by_cases c5:59<(Ú b).length
 ·rw[Ù (by simp[igt]; omega),if_pos c5]
 rw[Ì (by simp[igt]; omega),if_neg c5];rw[Ó (by omega) (by omega),Ó (by omega) (by omega),Ó (by omega) (by omega),Ó (by omega) (by omega),Ó (by omega) (by omega),Ó (by omega) (by omega)]
 by_cases c6:300<2*b.2.1.length+2*((Ú b).length-b.2.1.length:Int)+2*b.2.2.2.2.1.length
 ·rw[Ù (by simp[igt]; omega),if_pos c6]
 rw[Ì (by simp[igt]; omega),if_neg c6]
def wrapU {n:Nat} (h:n<18446744073709551616):IntKind.wrap .u64 (n:Int)=n:=by
 simp only[IntKind.wrap,IntKind.bits,IntKind.signed];simp;omega
def aa7 {n:Nat} (h:n<9223372036854775808):IntKind.wrap .i64 (n:Int)=n:=by
 simp only[IntKind.wrap,IntKind.bits,IntKind.signed];simp;omega
def jj (l:List (Int×Int)) (x d:Int):Option Nat:=l.findIdx? fun n=>decide (x=n.1)&&decide (d=n.2)
def Vz {l:List (Int×Int)} (hn:l.length≤100000000) (x d:Int):ï l (x,d)=some (match jj l x d with|some j=>(j:Int)|none=>-1):=by
 unfold ï Ů;refine Eq.trans (jt l (fun n=>decide (x=n.1)&&decide (d=n.2)) some (some (-1)) (fun i a hi ha kn=>?_) (fun kn=>?_)) ?_
 ·try dsimp only
  unfold Ģ;rw[Ñ hi,È ha,Ë hi (by omega),Č,Bool.and_true]
 ·try dsimp only
  unfold Ģ;rw[ß]
 ·unfold jj
  cases List.findIdx? (fun n=>decide (x=n.1)&&decide (d=n.2)) l<;>rfl
def atP (l:List (Int×Int)) (p:List Int) (d:Int):Int :=
 match p with
 |[]=>0
 |x::_=>match jj l x d with|some j=>(j:Int)+1|none=>0
def jV {l:List (Int×Int)} {x d:Int} {j:Nat} (h:jj l x d=some j):j<l.length∧l[j]?=some (x,d):=by
 unfold jj at h;obtain⟨hj,hp,_⟩:=List.findIdx?_eq_some_iff_getElem.1 h;refine⟨hj,?_⟩;rw[List.getElem?_eq_getElem hj];simp only[Bool.and_eq_true,decide_eq_true_eq] at hp;congr 1;exact Prod.ext hp.1.symm hp.2.symm
def ahp (m:Maker) (p:List Int) (d:Int) (hn:m.2.1.length≤100000000):j8 m p d=some (atP m.2.1 p d):=by
 unfold j8 xB atP
 cases p with
 |nil=>simp[Ò,ieq]
 |cons x p =>
  have h:ieq (Ø (x::p)) 0=false:=by
   rw[Ò];simp only[ieq,cP,beq_eq_false_iff_ne,ne_eq];omega
  rw[h,é,show(0:Int)=((0:Nat):Int) from rfl,È (a:=x) rfl,Vz hn,À]
  cases hx:jj m.2.1 x d with
  |none=>dsimp only; rw[Ó (by omega) (by omega)]; simp only[hx]; rfl
  |some j =>
   have:=(jV hx).1;dsimp only;rw[Ó (by omega) (by omega)];simp only[hx]
def Ms (s:List (Int×õ)) (p:List Int):Int×Int :=
 match p with
 |[]=>(0,1)
 |x::_=>match oW (k:=tI) (v:=Ô) x s with
  |some g=>g.2.2.2.2.1
  |none=>(0,0)
def SU (s:List (Int×õ)) (p:List Int):ig s p=some (Ms s p):=by
 unfold ig nF Ms
 cases p with
 |nil=>simp[Ò,ieq]
 |cons x p =>
  have h:ieq (Ø (x::p)) 0=false:=by
   rw[Ò];simp only[ieq,cP,beq_eq_false_iff_ne,ne_eq];omega
  rw[h,é,show(0:Int)=((0:Nat):Int) from rfl,È (a:=x) rfl]
  cases hx:oW (k:=tI) (v:=Ô) x s with
  |none=>simp only[Iw,hx]
  |some g=>simp only[Iw,hx]
def X3 {l:List (Int×Int)} (hr:∀r∈l,I64 r.1) (hn:l.length≤1000):jw l=some (if l.any (fun r=>!Mu r) then 1 else 0):=by
 unfold jw Ky;refine Eq.trans (Š l (fun r=>!Mu r) (fun _=>some 1) (some 1) (some 0) (fun _=>rfl) (fun i a hi ha kn=>?_) (fun kn=>?_)) ?_
 ·try dsimp only
  unfold qX;rw[Ñ hi,È ha,Sg (hr a (List.mem_of_getElem? ha)),À,Ë hi (by omega),Č]
 ·try dsimp only
  unfold qX;rw[ß]
 ·cases l.any (fun r=>!Mu r)<;>rfl
def vA (n d:Int):Int×Int:=(n / (Nat.gcd n.natAbs d.natAbs:Nat),d / (Nat.gcd n.natAbs d.natAbs:Nat))
def nX (r:Int×Int):Mu r=true↔1≤r.2∧r.2≤2147483647∧(r.1.natAbs:Int)≤2147483647∧Nat.gcd r.1.natAbs r.2.natAbs=1:=by
 simp[Mu]
def PE {n d:Int} (hd:0<d):∃g:Nat,0<g∧g=Nat.gcd n.natAbs d.natAbs∧n=(vA n d).1*g∧d=(vA n d).2*g:=by
 have hg:0<Nat.gcd n.natAbs d.natAbs:=Nat.gcd_pos_of_pos_right _ (by omega);refine⟨_,hg,rfl,?_,?_⟩
 ·exact(Int.ediv_mul_cancel (Int.ofNat_dvd_left.2 (Nat.gcd_dvd_left _ _))).symm
 ·exact(Int.ediv_mul_cancel (Int.ofNat_dvd_left.2 (Nat.gcd_dvd_right _ _))).symm
def V8 {n d:Int} (hd:0<d) (hn:n.natAbs≤2147483647) (hd2:d≤2147483647):Mu (vA n d)=true:=by
 obtain⟨g,h0,hg,h1,h2⟩:=PE (n:=n) hd;rw[nX]
 have a1:n.natAbs=(vA n d).1.natAbs*g:=by conv=>lhs; rw[h1]; rw[fB,fD]
 have a2:d.natAbs=(vA n d).2.natAbs*g:=by conv=>lhs; rw[h2]; rw[fB,fD]
 have p2:0<(vA n d).2:=by
  rcases Int.lt_trichotomy (vA n d).2 0 with h|h|h
  ·have:=Int.mul_neg_of_neg_of_pos h (show(0:Int)<g by omega); omega
  ·rw[h] at h2; simp at h2; omega
  ·exact h
 have b1:(vA n d).1.natAbs≤n.natAbs:=by rw[a1]; exact fT _ h0
 have b2:(vA n d).2.natAbs≤d.natAbs:=by rw[a2]; exact fT _ h0
 refine⟨by omega,by omega,by omega,?_⟩;have:=Nat.gcd_mul_right (vA n d).1.natAbs g (vA n d).2.natAbs;rw[←a1,←a2,←hg] at this
 have h3:(Nat.gcd (vA n d).1.natAbs (vA n d).2.natAbs)*g=1*g:=by omega
 exact Nat.eq_of_mul_eq_mul_right h0 h3
def Od {n d:Int} (hd:0<d) (hn:n.natAbs≤2147483647) (hd2:d≤2147483647):pJ n d=some (vA n d,0):=by
 obtain⟨g,h0,hg,h1,h2⟩:=PE (n:=n) hd;have hr:=(nX _).1 (V8 hd hn hd2);unfold pJ Bv;rw[PA ⟨by omega,by omega⟩,À,PA ⟨by omega,by omega⟩,À,af5,À,←hg]
 have a1:n.natAbs=(vA n d).1.natAbs*g:=by conv=>lhs; rw[h1]; rw[fB,fD]
 have a2:d.natAbs=(vA n d).2.natAbs*g:=by conv=>lhs; rw[h2]; rw[fB,fD]
 have q1:Int.tdiv (n.natAbs:Int) (g:Int)=((vA n d).1.natAbs:Int):=by
  rw[a1,gI]; exact Int.mul_tdiv_cancel _ (by omega)
 have q2:Int.tdiv (d.natAbs:Int) (g:Int)=((vA n d).2.natAbs:Int):=by
  rw[a2,gI]; exact Int.mul_tdiv_cancel _ (by omega)
 have z:kQ (g:Int) 0=false:=by simp[kQ]; omega
 have g1:igt ((vA n d).1.natAbs:Int) 2147483647=false:=by simp[igt]; omega
 have g2:igt ((vA n d).2.natAbs:Int) 2147483647=false:=by simp[igt]; omega
 rw[Ì z,Ì z,q1,q2,wrapU (by omega),wrapU (by omega),aa7 (by omega),aa7 (by omega),Ì g1,Ì g2]
 have hd0:ilt d 0=false:=by simp[ilt]; omega
 rw[hd0]
 have e2:((vA n d).2.natAbs:Int)=(vA n d).2:=by omega
 rw[e2]
 by_cases hneg:n<0
 ·have hn0:ilt n 0=true:=by simp[ilt,hneg]
  have:(vA n d).1≤0:=by
   rcases gH 0 (vA n d).1 with h|h
   ·have:=Int.mul_pos h (show(0:Int)<g by omega); omega
   ·exact h
  rw[hn0];rw[show(!true==false)=true from rfl,oo,Ó (by omega) (by omega)]
  have:0-((vA n d).1.natAbs:Int)=(vA n d).1:=by omega
  rw[this]
 ·have hn0:ilt n 0=false:=by simp[ilt]; omega
  have:0≤(vA n d).1:=by
   rcases gH (vA n d).1 0 with h|h
   ·have:=Int.mul_neg_of_neg_of_pos h (show(0:Int)<g by omega); omega
   ·exact h
  rw[hn0];rw[show(!false==false)=false from rfl,é]
  have:((vA n d).1.natAbs:Int)=(vA n d).1:=by omega
  rw[this]
structure ye (r:Int×Int) (n d:Int):Prop where
 rat:Mu r=true
 num : -n≤r.1∧r.1≤n
 den:r.2≤d
def ye.pos {r:Int×Int} {n d:Int} (h:ye r n d):1≤r.2:=((nX r).1 h.rat).1
def ye.i64 {r:Int×Int} {n d:Int} (h:ye r n d):I64 r.1:=by
 have:=((nX r).1 h.rat).2.2.1;exact⟨by omega,by omega⟩
def aba {x y:Int×Int} (hx:Mu x=true) (hy:Mu y=true):jw [x,y]=some 0:=by
 rw[X3]
 ·simp[hx,hy]
 ·intro r hr
  have:Mu r=true:=by simp at hr; rcases hr with rfl|rfl<;>assumption
  have:=((nX r).1 this).2.2.1;exact⟨by omega,by omega⟩
 ·simp
def ql {a b m n:Int} (h1 : -m≤a∧a≤m) (h2 : -n≤b∧b≤n) : -(m*n)≤a*b∧a*b≤m*n:=by
 have hm:0≤m:=by omega
 have hn:0≤n:=by omega
 have h3:(a*b).natAbs≤(m*n).natAbs:=by
  rw[fB,fB];exact fO (by omega) (by omega)
 have h4:0≤m*n:=gC hm hn;omega
def subP (x y:Int×Int):Int×Int:=vA (x.1*y.2-y.1*x.2) (x.2*y.2)
def N6 {x y:Int×Int} (hx:ye x 1000 100) (hy:ye y 1000 100):(x.1*y.2-y.1*x.2).natAbs≤200000∧0<x.2*y.2∧x.2*y.2≤10000:=by
 have h1:=ql hx.num (show -100≤y.2∧y.2≤100 from⟨by have:=hy.pos; omega,hy.den⟩);have h2:=ql hy.num (show -100≤x.2∧x.2≤100 from⟨by have:=hx.pos; omega,hx.den⟩);have h3:=ql (show -100≤x.2∧x.2≤100 from⟨by have:=hx.pos; omega,hx.den⟩) (show -100≤y.2∧y.2≤100 from⟨by have:=hy.pos; omega,hy.den⟩);have h4:=Int.mul_pos (show 0<x.2 by have:=hx.pos; omega) (show 0<y.2 by have:=hy.pos; omega);refine⟨by omega,h4,by omega⟩
def Sub_ok {x y:Int×Int} (hx:ye x 1000 100) (hy:ye y 1000 100):RG x y=some (subP x y,0):=by
 obtain⟨b1,b2,b3⟩:=N6 hx hy;have h1:=ql hx.num (show -100≤y.2∧y.2≤100 from⟨by have:=hy.pos; omega,hy.den⟩);have h2:=ql hy.num (show -100≤x.2∧x.2≤100 from⟨by have:=hx.pos; omega,hx.den⟩);unfold RG WV;rw[aba hx.rat hy.rat,À];rw[show ine (0:Int) 0=false from rfl,é,Ó (by omega) (by omega),Ó (by omega) (by omega),Ó (by omega) (by omega),Ó (by omega) (by omega),Od b2 (by omega) (by omega),À];rfl
def abB {n d:Int} (hd:0<d):(vA n d).1.natAbs≤n.natAbs∧(vA n d).2≤d:=by
 obtain⟨g,h0,hg,h1,h2⟩:=PE (n:=n) hd
 have a1:n.natAbs=(vA n d).1.natAbs*g:=by conv=>lhs; rw[h1]; rw[fB,fD]
 have a2:d.natAbs=(vA n d).2.natAbs*g:=by conv=>lhs; rw[h2]; rw[fB,fD]
 have b1:(vA n d).1.natAbs≤n.natAbs:=by rw[a1]; exact fT _ h0
 have b2:(vA n d).2.natAbs≤d.natAbs:=by rw[a2]; exact fT _ h0
 exact⟨b1,by omega⟩
def VQ {x y:Int×Int} (hx:ye x 1000 100) (hy:ye y 1000 100):ye (subP x y) 200000 10000:=by
 obtain⟨b1,b2,b3⟩:=N6 hx hy;obtain⟨c1,c2⟩:=abB (n:=x.1*y.2-y.1*x.2) b2;exact⟨V8 b2 (by omega) (by omega),by unfold subP; omega,by unfold subP; omega⟩
def aaX (k:Int×Int) (n:Int):Int×Int:=vA (k.1*n) k.2
def OA {k:Int×Int} (hk:ye k 200000 10000) {n:Int} (hn : -10000≤n∧n≤10000):(k.1*n).natAbs≤2000000000:=by
 have:=ql hk.num hn;omega
def Xf {n:Int} (hn : -10000≤n∧n≤10000):Mu (n,1)=true:=by
 rw[nX];exact⟨by simp,by simp,by simp; omega,by simp⟩
def agh {k:Int×Int} (hk:ye k 200000 10000) {n:Int} (hn : -10000≤n∧n≤10000):LM k (n,1)=some (aaX k n,0):=by
 have b:=OA hk hn;have p:=hk.pos;have q:=hk.den;unfold LM WY;rw[aba hk.rat (Xf hn),À];rw[show ine (0:Int) 0=false from rfl,é,Ó (by simp only; omega) (by simp only; omega),Int.mul_one,Ó (by omega) (by omega),Od (by omega) (by simp only; omega) (by omega),À];rfl
def PW {k:Int×Int} (hk:ye k 200000 10000) {n:Int} (hn : -10000≤n∧n≤10000):ye (aaX k n) 2000000000 10000:=by
 have b:=OA hk hn;have p:=hk.pos;have q:=hk.den;obtain⟨c1,c2⟩:=abB (n:=k.1*n) (show 0<k.2 by omega);exact⟨V8 (by omega) (by omega) (by omega),by unfold aaX; omega,by unfold aaX; omega⟩
def cmpP (x y:Int×Int):Int:=if x=y then 0 else if x.1*y.2<y.1*x.2 then -1 else if y.1*x.2<x.1*y.2 then 1 else 0
def aga {x y:Int×Int} {m d:Int} (hx:ye x m d) (hy:ye y m d) (hm:m≤2000000000) (hd:d≤10000):LK x y=some (cmpP x y):=by
 have h1:=ql hx.num (show -d≤y.2∧y.2≤d from⟨by have:=hy.pos; have:=hy.den; omega,hy.den⟩);have h2:=ql hy.num (show -d≤x.2∧x.2≤d from⟨by have:=hx.pos; have:=hx.den; omega,hx.den⟩);have h0:0≤m∧0≤d:=⟨by have:=hx.num; omega,by have:=hx.pos; have:=hx.den; omega⟩;have h3:m*d≤2000000000*10000:=Int.mul_le_mul hm hd h0.2 (by omega);unfold LK WS cmpP;rw[Ó (by omega) (by omega),Ó (by omega) (by omega)];simp only[Č,Bool.and_true,Bool.and_eq_true,decide_eq_true_eq,kQ,ilt,igt,gt_iff_lt];have:(x.1=y.1∧x.2=y.2)↔x=y:=⟨fun h=>Prod.ext h.1 h.2,fun h=>by rw[h]; exact⟨rfl,rfl⟩⟩;simp only[this]
 (repeat' split)<;>rfl
def ZW (k:Int×Int) (heat:Int×Int):(Int×Int)×(Int×Int) :=
 if 0<cmpP (aaX k heat.1) (aaX k heat.2) then(aaX k heat.2,aaX k heat.1) else(aaX k heat.1,aaX k heat.2)
def agL {k heat:Int×Int} (hk:ye k 200000 10000) (hh:nS heat (-10000) 10000=true):ow k heat=some (ZW k heat):=by
 simp only[nS,Bool.and_eq_true,decide_eq_true_eq] at hh;obtain⟨h1,h2,h3⟩:=hh;have n1 : -10000≤heat.1∧heat.1≤10000:=⟨by omega,by omega⟩;have n2 : -10000≤heat.2∧heat.2≤10000:=⟨by omega,by omega⟩;have r1:ye (heat.1,1) 10000 10000:=⟨Xf n1,n1,by simp⟩;have r2:ye (heat.2,1) 10000 10000:=⟨Xf n2,n2,by simp⟩;unfold ow uH LL KI sc rS;rw[aba r1.rat r2.rat,À];have:ieq 0 0=true:=rfl;rw[Ù this,aga r1 r2 (by omega) (by omega),À]
 have hc:ile (cmpP (heat.1,1) (heat.2,1)) 0=true:=by
  unfold cmpP;simp only[ile,decide_eq_true_eq,Int.mul_one]
  split
  ·omega
  ·split
   ·omega
   ·rw[if_neg (by omega)]; omega
 rw[hc,À];simp only[Bool.not_true,é];rw[Sg hk.i64,hk.rat,À];simp only[Bool.not_true,é];rw[agh hk n1,À,agh hk n2,À];simp only[show ine (0:Int) 0=false from rfl,é];rw[aga (PW hk n1) (PW hk n2) (by omega) (by omega),À];unfold ZW;rw[Č]
 by_cases h:0<cmpP (aaX k heat.1) (aaX k heat.2)
 ·rw[if_pos h,if_pos (by simpa[igt] using h)]; rfl
 ·rw[if_neg h,if_neg (by simpa[igt] using h)]; rfl
def rateK (s:List (Int×õ)) (c:Cmp):Int×Int:=subP (Ms s (ý c.2.2.1 c.2.2.2.1)) (Ms s (ý c.2.2.2.1 c.2.2.1))
def vc (b:Ğ) (c:Cmp):(Int×Int)×(Int×Int):=ZW (rateK (iz b) c) c.2.2.2.2.2.2
def acF {b:Ğ} (hs:vL b) {c:Cmp} (hA:c.2.2.1.length≤1000) (hB:c.2.2.2.1.length≤1000)
 (h1:ye (Ms (iz b) (ý c.2.2.1 c.2.2.2.1)) 1000 100) (h2:ye (Ms (iz b) (ý c.2.2.2.1 c.2.2.1)) 1000 100) (hh:nS c.2.2.2.2.2.2 (-10000) 10000=true):tJ b c=some (vc b c):=by
 unfold tJ FS;rw[EO hs.gauges,À,xH (by omega) (by omega),À,SU,À,xH (by omega) (by omega),À,SU,À];unfold vk uI;rw[Sub_ok h1 h2,À,À]
 try dsimp only
 rw[agL (VQ h1 h2) hh,À];rfl
def AE (b:Ğ) (c:Cmp):Int×Int :=
 (((c.2.2.1.length-1:Nat):Int)*b.1.1-((c.2.2.2.1.length-1:Nat):Int)*b.1.2,((c.2.2.1.length-1:Nat):Int)*b.1.2-((c.2.2.2.1.length-1:Nat):Int)*b.1.1)
def ae5 {b:Ğ} {c:Cmp} (hA:c.2.2.1.length≤1000) (hB:c.2.2.2.1.length≤1000) (h1:0≤b.1.1) (h2:b.1.1≤1000000) (h3:0≤b.1.2) (h4:b.1.2≤1000000):xQ b c=some (AE b c):=by
 unfold xQ KZ AE
 have e:∀n:Nat,Xj 0 ((n:Int)-1)=((n-1:Nat):Int):=by
  intro n;unfold Xj
  split<;>omega
 have bd:∀(n:Nat) (x:Int),n≤1000→0≤x→x≤1000000→0≤((n-1:Nat):Int)*x∧((n-1:Nat):Int)*x≤1000000000:=by
  intro n x hn h0 hx;refine⟨gC (by omega) h0,?_⟩;have:=fN (show((n-1:Nat):Int)≤1000 by omega) hx h0 (by omega);omega
 have b1:=bd _ _ hA h1 h2;have b2:=bd _ _ hA h3 h4;have b3:=bd _ _ hB h1 h2;have b4:=bd _ _ hB h3 h4;simp only[Ò];rw[Ó (by omega) (by omega),Ó (by omega) (by omega)];simp only[e];rw[Ó (by omega) (by omega),Ó (by omega) (by omega),Ó (by omega) (by omega),Ó (by omega) (by omega),Ó (by omega) (by omega),Ó (by omega) (by omega)]
def Y4 {n d:Int} (hd:1≤d) (hn : -4000000000≤n∧n≤4000000000):xP n d=some (n / d):=by
 unfold xP KD
 have z:kQ d 0=false:=by simp[kQ]; omega
 rw[Ì z];have t:=Int.mul_tdiv_add_tmod n d
 have b1 : -4000000000≤Int.tdiv n d∧Int.tdiv n d≤4000000000:=by
  have:=Int.natAbs_tdiv_le_natAbs n d;omega
 rw[Ó (by omega) (by omega),Ì z,Č]
 by_cases h:Int.tmod n d<0
 ·rw[if_pos (by simpa[ilt] using h),Ó (by omega) (by omega)];congr 1
  have h5 : -d<Int.tmod n d:=by
   have h6:=Int.natAbs_tmod n d;have h7:=Nat.mod_lt n.natAbs (show 0<d.natAbs by omega);omega
  refine(Int.ediv_eq_iff_of_pos (by omega)).2 ⟨?_,?_⟩ |>.symm
  ·rw[Int.sub_mul,gK]; omega
  ·rw[Int.sub_mul,gK (Int.tdiv n d)]; omega
 ·rw[if_neg (by simpa[ilt] using h)];congr 1
  have h5:Int.tmod n d<d:=by
   have h6:=Int.natAbs_tmod n d;have h7:=Nat.mod_lt n.natAbs (show 0<d.natAbs by omega);omega
  refine(Int.ediv_eq_iff_of_pos (by omega)).2 ⟨?_,?_⟩ |>.symm
  ·rw[gK]; omega
  ·rw[gK (Int.tdiv n d)]; omega
def afR {x:Int×Int} (hx:Mu x=true):jw [x]=some 0:=by
 rw[X3]
 ·simp[hx]
 ·intro r hr
  have:Mu r=true:=by simp at hr; subst hr; assumption
  have:=((nX r).1 this).2.2.1;exact⟨by omega,by omega⟩
 ·simp
def aaH (r:Int×Int):Int:=-(-r.1 / r.2)
def afN {r:Int×Int} (h:Mu r=true):Ek r=some (r.1 / r.2,0):=by
 unfold Ek KK;have:=(nX r).1 h;rw[afR h,À];rw[show ine (0:Int) 0=false from rfl,é,Y4 (by omega) (by omega),À]
def Gg {n d:Int} (hd:1≤d):(n / d).natAbs≤n.natAbs:=by
 exact Int.natAbs_ediv_le_natAbs n d
def ahx {r:Int×Int} (h:Mu r=true):IF r=some (aaH r,0):=by
 unfold IF QV aaH;have:=(nX r).1 h;rw[afR h,À];rw[show ine (0:Int) 0=false from rfl,é,Ó (by omega) (by omega),Y4 (by omega) (by omega),À];have hb:=Gg (n:=0-r.1) (show 1≤r.2 by omega);rw[Ó (by omega) (by omega),Int.zero_sub,Int.zero_sub]
def wn (b:Ğ) (c:Cmp):Int×Int :=
 (c.2.2.2.2.1-c.2.2.2.2.2.1-(AE b c).2-(vc b c).2.1 / (vc b c).2.2,c.2.2.2.2.1+c.2.2.2.2.2.1-(AE b c).1-aaH (vc b c).1)
structure Ν (b:Ğ):Prop where
 film:0≤b.1.1∧b.1.1≤b.1.2∧b.1.2≤1000000
 nG:b.2.1.length≤12
 nU:b.2.2.1.length≤40
 nL:b.2.2.2.1.length≤12
 nC:b.2.2.2.2.1.length≤40
 nK:b.2.2.2.2.2.length≤10
 gauge:∀g∈b.2.1,AD g=true
 ids:b.2.1.Pairwise fun a b=>a.1<b.1
 uses:∀u∈b.2.2.1,abc (iz b) u.1 u.2=0
 loans:∀i l,b.2.2.2.1[i]?=some l→Rp b (iz b) i l=0
 compares:∀i c,b.2.2.2.2.1[i]?=some c→oy b (iz b) i c=0
 looks:∀u∈b.2.2.2.2.2,abc (iz b) u.1 u.2=0
 nodes:(Ú b).length≤59
 links:2*(Ú b).length+2*b.2.2.2.2.1.length≤300
def Lq (b:Ğ):nJ b=0↔(∀g∈b.2.1,AD g=true)∧b.2.1.Pairwise fun a b=>a.1<b.1:=by
 have h0:ķ (xL b.2.1) 0 b.2.1=none↔(∀g∈b.2.1,AD g=true)∧b.2.1.Pairwise fun a b=>a.1<b.1:=by
  rw[iO,←IJ (fun g:õ=>g.1) b.2.1];constructor
  ·intro h
   have h1:∀(j:Nat) (a:õ),b.2.1[j]?=some a→AD a=true∧tO (fun g:õ=>g.1) b.2.1 j a=false:=by
    intro j a ha;have:=h j a ha;rw[Nat.zero_add] at this;unfold xL at this
    split at this
    ·cases this
    ·split at this
     ·cases this
     ·rename_i h1 h2;exact⟨by simpa using h1,by simpa using h2⟩
   refine⟨fun x hx=>?_,fun i a ha=>(h1 i a ha).2⟩;obtain⟨j,hj,rfl⟩:=cO.1 hx;exact(h1 j _ (cA hj)).1
  ·rintro⟨h1,h2⟩ j a ha;rw[dm];simp[xL,h1 a (cI ha),h2 j a ha]
 rw[←h0];unfold nJ
 cases h:ķ (xL b.2.1) 0 b.2.1 with
 |none=>simp
 |some e =>
  have:∀(m:List õ) (j:Nat) (x:Int),ķ (xL b.2.1) j m=some x→x≠0:=by
   intro m
   induction m with
   |nil=>intro j x h; cases h
   |cons a m ih =>
    intro j x h;unfold ķ at h
    cases hp:xL b.2.1 j a with
    |none=>rw[hp] at h; exact ih _ _ h
    |some y =>
     rw[hp] at h;cases h;unfold xL at hp
     split at hp
     ·cases hp; omega
     ·split at hp
      ·cases hp; omega
      ·cases hp
  simp[this _ _ _ h]
def ψ (b:Ğ):ű b=0↔Ν b:=by
 unfold ű;constructor
 ·intro h
  split at h
  ·omega
  rename_i h1
  (repeat' split at h)<;>try omega
  ·rename_i hg
   have hg':nJ b≠0:=by simpa using hg
   exact(hg' h).elim
  ·rename_i hf;have:=fF hf;rename_i e;simp at this;exact(this h).elim
  ·rename_i hn1 hn2 hn3 hn4 hn5 hg e hf hn6 hn7
   have hg0:nJ b=0:=by simpa using hg
   obtain⟨g1,g2⟩:=(Lq b).1 hg0
   have hall:∀x∈GD b (iz b),x=0:=fun x hx=>by
    have:=dQ.1 hf x hx;simpa using this
   simp only[GD,cG] at hall
   have hs:nS b.1 0 1000000=true:=by simpa using h1
   simp only[nS,cD,decide_eq_true_eq] at hs;refine⟨⟨hs.1,hs.2.1,hs.2.2⟩,by omega,by omega,by omega,by omega,by omega,g1,g2,fun u hu=>hall _ (.inl (dc.2 ⟨u,hu,rfl⟩)),fun i l hl=>?_,fun i c hc=>?_,fun u hu=>hall _ (.inr (.inr (.inr (dc.2 ⟨u,hu,rfl⟩)))),by omega,by omega⟩
   ·obtain⟨hi,rfl⟩:=cE.1 hl;exact hall _ (.inr (.inl (List.mem_mapIdx.2 ⟨i,hi,rfl⟩)))
   ·obtain⟨hi,rfl⟩:=cE.1 hc;exact hall _ (.inr (.inr (.inl (List.mem_mapIdx.2 ⟨i,hi,rfl⟩))))
 ·intro h
  have hs:nS b.1 0 1000000=true:=by simp[nS,h.film.1,h.film.2.1,h.film.2.2]
  have hg:nJ b=0:=(Lq b).2 ⟨h.gauge,h.ids⟩
  have hall:(GD b (iz b)).find? (fun e=>e != 0)=none:=by
   rw[dQ];intro x hx;simp only[GD,cG,dc,List.mem_mapIdx] at hx
   have:x=0:=by
    rcases hx with⟨u,hu,rfl⟩|⟨i,hi,rfl⟩|⟨i,hi,rfl⟩|⟨u,hu,rfl⟩
    ·exact h.uses u hu
    ·exact h.loans i _ (cA hi)
    ·exact h.compares i _ (cA hi)
    ·exact h.looks u hu
   simp[this]
  have:=h.nG; have:=h.nU; have:=h.nL; have:=h.nC; have:=h.nK; have:=h.nodes; have:=h.links;rw[hs,hg,hall];simp only[dA,cS,if_false,bne_self_eq_false];rw[if_neg (by omega),if_neg (by omega),if_neg (by omega),if_neg (by omega),if_neg (by omega),if_neg (by omega),if_neg (by omega)]
section
variable {b:Ğ}
def jm {l:List Int} (h:vN l=true):l.length≤6:=((Cd l).1 h).2.2
def Ν.nums (h:Ν b) {c:Cmp} (hc:c∈b.2.2.2.2.1):Z2 c=true:=by
 obtain⟨i,hi,rfl⟩:=List.mem_iff_getElem.1 hc;have:=h.compares i _ (List.getElem?_eq_getElem hi);unfold oy at this
 split at this
 ·omega
 ·rename_i h; simpa using h
def Ν.pilesOf (h:Ν b) {c:Cmp} (hc:c∈b.2.2.2.2.1):wq b (iz b) c=0:=by
 obtain⟨i,hi,rfl⟩:=List.mem_iff_getElem.1 hc;have:=h.compares i _ (List.getElem?_eq_getElem hi);unfold oy at this
 split at this
 ·omega
 ·split at this
  ·omega
  ·exact this
def jn (c:Cmp):Z2 c=true↔(1≤c.1∧c.1≤1099511627776)∧(0≤c.2.1∧c.2.1≤20000)∧(-1125899906842624≤c.2.2.2.2.1∧c.2.2.2.2.1≤1125899906842624)∧(0≤c.2.2.2.2.2.1∧c.2.2.2.2.2.1≤1073741824)∧nS c.2.2.2.2.2.2 (-10000) 10000=true∧vN c.2.2.1=true∧vN c.2.2.2.1=true:=by
 simp[Z2,inP,LQ,and_assoc]
def Ν.size (h:Ν b):vL b:=by
 have h1:=h.nG; have h2:=h.nU; have h3:=h.nL; have h4:=h.nC; have h5:=h.nK;refine⟨by omega,by omega,by omega,by omega,by omega,fun c hc=>?_⟩;have:=(jn c).1 (h.nums hc);have a:=jm this.2.2.2.2.2.1;have b:=jm this.2.2.2.2.2.2;omega
def O4 (g:õ):AD g=true↔Mu g.2.2.2.2.1=true∧(-1000≤g.2.2.2.2.1.1∧g.2.2.2.2.1.1≤1000)∧g.2.2.2.2.1.2≤100∧(1≤g.1∧g.1≤1099511627776)∧(0≤g.2.1∧g.2.1≤20000)∧(1≤g.2.2.1∧g.2.2.1≤1125899906842624)∧(-1073741824≤g.2.2.2.1.1∧g.2.2.2.1.1≤g.2.2.2.1.2∧g.2.2.2.1.2≤1073741824)∧(0≤g.2.2.2.2.2∧g.2.2.2.2.2≤1048576):=by
 simp[AD,inP,LQ,nS,and_assoc]
def gO {id:Int} {g:õ} (h:þ b id=some g):g∈b.2.1∧g.1=id:=by
 unfold þ at h;exact⟨List.mem_of_find?_eq_some h,by simpa using List.find?_some h⟩
def vd (hi:b.2.1.Pairwise fun a b=>a.1<b.1) {g:õ} (hg:g∈b.2.1):þ b g.1=some g:=by
 unfold þ
 induction hl:b.2.1 generalizing b with
 |nil=>rw[hl] at hg; cases hg
 |cons a t ih =>
  rw[hl] at hg hi;rw[dk] at hi;rw[fi];rcases cH.1 hg with rfl|hg
  ·simp
  ·have h1:=hi.1 g hg
   have:(a.1==g.1)=false:=by simp; omega
   rw[this];have:=ih (b:=(b.1,t,b.2.2)) hi.2 hg rfl;exact this
def E6 (h:Ν b) {id day:Int} (hm:mD (iz b) id day=0):∃g,þ b id=some g∧g.2.1≤day:=by
 unfold mD at hm;rw[yk h.ids] at hm
 split at hm
 ·rename_i g hg
  split at hm
  ·omega
  ·exact⟨g,hg,by omega⟩
 ·omega
def Jq (s:List (Int×õ)) (id day:Int):mD s id day=0∨mD s id day=4∨mD s id day=5:=by
 unfold mD
 split
 ·split<;>simp
 ·simp
def Ν.pile (h:Ν b) {c:Cmp} (hc:c∈b.2.2.2.2.1) {x:Int} (hx:x∈c.2.2.1++c.2.2.2.1):(∃g,þ b x=some g∧g.2.1≤c.2.1)∧lh b x c.2.1=none:=by
 have hp:=h.pilesOf hc;unfold wq at hp
 split at hp
 ·omega
 rename_i h5
 split at hp
 ·omega
 rename_i h4
 split at hp
 ·omega
 rename_i h9;have a5:=(dG.1 (dW.2 h5)) x hx;have a4:=(dG.1 (dW.2 h4)) x hx;have a9:=(dG.1 (dW.2 h9)) x hx;simp at a5 a4 a9;refine⟨E6 h ?_,a9⟩;rcases Jq (iz b) x c.2.1 with h0|h0|h0
 ·exact h0
 ·exact(a4 h0).elim
 ·exact(a5 h0).elim
def Ν.lefts (h:Ν b) {c:Cmp} (hc:c∈b.2.2.2.2.1):(ý c.2.2.1 c.2.2.2.1).length≤1∧(ý c.2.2.2.1 c.2.2.1).length≤1∧(ý c.2.2.1 c.2.2.2.1).length+(ý c.2.2.2.1 c.2.2.1).length≠0:=by
 have hp:=h.pilesOf hc;unfold wq at hp
 (repeat' split at hp)<;>first|omega|exact⟨by omega,by omega,by omega⟩
def ng {a c:List Int} {x:Int}:x∈ý a c↔x∈a∧x∉c:=by
 simp[ý]
def Ν.rate (h:Ν b) {p:List Int} (hp:∀x∈p,∃g,þ b x=some g):ye (Ms (iz b) p) 1000 100:=by
 unfold Ms
 cases p with
 |nil =>
  have:ye (0,1) 1000 100:=⟨by decide,by decide,by decide⟩;exact this
 |cons x t =>
  obtain⟨g,hg⟩:=hp x (by simp)
  try dsimp only
  rw[yk h.ids,hg];have:=(O4 g).1 (h.gauge g (gO hg).1);exact⟨this.1,this.2.1,this.2.2.1⟩
def Ν.rates (h:Ν b) {c:Cmp} (hc:c∈b.2.2.2.2.1):ye (Ms (iz b) (ý c.2.2.1 c.2.2.2.1)) 1000 100∧ye (Ms (iz b) (ý c.2.2.2.1 c.2.2.1)) 1000 100:=by
 constructor
 ·exact h.rate fun x hx=>by
   obtain⟨⟨g,hg,_⟩,_⟩:=h.pile hc (du _ (ng.1 hx).1);exact⟨g,hg⟩
 ·exact h.rate fun x hx=>by
   obtain⟨⟨g,hg,_⟩,_⟩:=h.pile hc (dt _ (ng.1 hx).1);exact⟨g,hg⟩
def Ν.growth (h:Ν b) {c:Cmp} (hc:c∈b.2.2.2.2.1):tJ b c=some (vc b c):=by
 obtain⟨r1,r2⟩:=h.rates hc;have hn:=(jn c).1 (h.nums hc);have a:=jm hn.2.2.2.2.2.1;have b:=jm hn.2.2.2.2.2.2;exact acF h.size (by omega) (by omega) r1 r2 hn.2.2.2.2.1
def Ν.films (h:Ν b) {c:Cmp} (hA:c.2.2.1.length≤1000) (hB:c.2.2.2.1.length≤1000):xQ b c=some (AE b c):=by
 have:=h.film;exact ae5 hA hB (by omega) (by omega) (by omega) (by omega)
def YA {k heat:Int×Int} (hk:ye k 200000 10000) (hh:nS heat (-10000) 10000=true):ye (ZW k heat).1 2000000000 10000∧ye (ZW k heat).2 2000000000 10000:=by
 simp only[nS,Bool.and_eq_true,decide_eq_true_eq] at hh;have r1:=PW hk (n:=heat.1) ⟨by omega,by omega⟩;have r2:=PW hk (n:=heat.2) ⟨by omega,by omega⟩;unfold ZW
 split
 ·exact⟨r2,r1⟩
 ·exact⟨r1,r2⟩
def LF {c:Cmp} (hA:c.2.2.1.length≤1000) (hB:c.2.2.2.1.length≤1000) (h1:0≤b.1.1) (h2:b.1.1≤1000000) (h3:0≤b.1.2) (h4:b.1.2≤1000000) :
 (-1000000000≤(AE b c).1∧(AE b c).1≤1000000000)∧(-1000000000≤(AE b c).2∧(AE b c).2≤1000000000):=by
 have bd:∀(n:Nat) (x:Int),n≤1000→0≤x→x≤1000000→0≤((n-1:Nat):Int)*x∧((n-1:Nat):Int)*x≤1000000000:=by
  intro n x hn h0 hx;refine⟨gC (by omega) h0,?_⟩;have:=fN (show((n-1:Nat):Int)≤1000 by omega) hx h0 (by omega);omega
 have b1:=bd _ _ hA h1 h2;have b2:=bd _ _ hA h3 h4;have b3:=bd _ _ hB h1 h2;have b4:=bd _ _ hB h3 h4;unfold AE
 try dsimp only
 omega
def LB {r:Int×Int} (h:ye r 2000000000 10000) : -2000000000≤r.1 / r.2∧r.1 / r.2≤2000000000:=by
 have:=Gg (n:=r.1) h.pos;have:=h.num;omega
def Pj {r:Int×Int} (h:ye r 2000000000 10000) : -2000000000≤aaH r∧aaH r≤2000000000:=by
 have:=Gg (n:=-r.1) h.pos;have:=h.num;unfold aaH;omega
def Ν.says (h:Ν b) {c:Cmp} (hc:c∈b.2.2.2.2.1):yH b c=some (wn b c):=by
 obtain⟨r1,r2⟩:=h.rates hc;have hn:=(jn c).1 (h.nums hc);have ha:=jm hn.2.2.2.2.2.1;have hb:=jm hn.2.2.2.2.2.2;have hf:=h.film;obtain⟨g1,g2⟩:=YA (VQ r1 r2) hn.2.2.2.2.1;have fb:=LF (b:=b) (c:=c) (by omega) (by omega) (by omega) (by omega) (by omega) (by omega);have q1:ye (vc b c).1 2000000000 10000:=g1;have q2:ye (vc b c).2 2000000000 10000:=g2;have c1:=Pj q1;have c2:=LB q2;unfold yH QX wn;rw[h.growth hc,À,h.films (by omega) (by omega),À,afN q2.rat,À,ahx q1.rat,À]
 try dsimp only
 have n3:=hn.2.2.1;have n4:=hn.2.2.2.1;rw[Ó (by omega) (by omega),Ó (by omega) (by omega),Ó (by omega) (by omega),Ó (by omega) (by omega),Ó (by omega) (by omega),Ó (by omega) (by omega)]
end
def ĕ (l:Mi) (f t:Int):Int:=min l.2.1.2 (t-1)-max l.2.1.1 f+1
def ĭ (id f t:Int):List Mi→Int
 |[]=>0
 |l::r=>(if l.1=id∧0<ĕ l f t then ĕ l f t*l.2.2 else 0)+ĭ id f t r
def xF (id f t:Int):∀(x y:List Mi),ĭ id f t (x++y)=ĭ id f t x+ĭ id f t y
 |[],y=>by simp[ĭ]
 |l::r,y=>by
  simp only[eV,ĭ,xF id f t r y];omega
def ip (b:Ğ) (id f t:Int):List Int:=(b.2.2.1.filter fun u=>u.1==id&&inP u.2 f (t-1)).map fun u=>u.2
def kH (b:Ğ) (g:õ) (f t:Int):Int:=ĭ g.1 f t b.2.2.2.1+(VD (ip b g.1 f t)).length*g.2.2.2.2.2
def Xi (a c:Int):YR a c=min a c:=by unfold YR; split<;>omega
def acC (a c:Int):Xj a c=max a c:=by unfold Xj; split<;>omega
def tx {b:Ğ} (h:Ν b) {l:Mi} (hl:l∈b.2.2.2.1):(0≤l.2.1.1∧l.2.1.1≤l.2.1.2∧l.2.1.2≤20000)∧(0≤l.2.2∧l.2.2≤1048576):=by
 obtain⟨i,hi,rfl⟩:=List.mem_iff_getElem.1 hl;have:=h.loans i _ (List.getElem?_eq_getElem hi);unfold Rp at this
 split at this
 ·omega
 rename_i h1
 split at this
 ·omega
 rename_i h2;simp only[dO,Bool.not_eq_false,nS,inP,cD,decide_eq_true_eq] at h1 h2;exact⟨h1,h2⟩
def OW {l:Mi} (h:(0≤l.2.1.1∧l.2.1.1≤l.2.1.2∧l.2.1.2≤20000)∧(0≤l.2.2∧l.2.2≤1048576)) {f t:Int} (hf:0≤f) (hd:0<ĕ l f t):0≤ĕ l f t*l.2.2∧ĕ l f t*l.2.2≤20001*1048576:=by
 refine⟨Int.mul_nonneg (by omega) h.2.1,Int.mul_le_mul ?_ h.2.2 h.2.1 (by omega)⟩;unfold ĕ;omega
def rX {id f t:Int} (hf:0≤f):∀{x:List Mi},(∀l∈x,(0≤l.2.1.1∧l.2.1.1≤l.2.1.2∧l.2.1.2≤20000)∧(0≤l.2.2∧l.2.2≤1048576))→0≤ĭ id f t x∧ĭ id f t x≤x.length*(20001*1048576)
 |[],_=>by simp[ĭ]
 |l::r,h=>by
  have ih:=rX (id:=id) (t:=t) hf (x:=r) fun l hl=>h l (by simp[hl]);simp only[ĭ,cP,gh,fY,gj]
  split
  ·rename_i hc;have:=OW (h l (by simp)) hf hc.2;omega
  ·omega
def agS {b:Ğ} (h:Ν b) {g:õ} (hg:0≤g.2.2.2.2.2∧g.2.2.2.2.2≤1048576) {f t:Int} (hf:0≤f∧f≤100000) (ht:0≤t∧t≤100000):yI b g f t=some (kH b g f t):=by
 have hL:=h.nL;have hU:=h.nU
 have hlb:∀i,0≤ĭ g.1 f t (b.2.2.2.1.take i)∧ĭ g.1 f t (b.2.2.2.1.take i)≤12*(20001*1048576):=by
  intro i;have h1:=rX (id:=g.1) (t:=t) hf.1 (x:=b.2.2.2.1.take i) fun l hl=>tx h (fL hl);have h2:((b.2.2.2.1.take i).length:Int)*(20001*1048576)≤12*(20001*1048576):=fh (by rw[cW]; omega) (by omega);omega
 unfold yI Q2;refine Ę (fun x:Int×Int=>∃i:Nat,i≤b.2.2.2.1.length∧x=(ĭ g.1 f t (b.2.2.2.1.take i),(i:Int))) (fun x=>b.2.2.2.1.length-x.2.toNat) ?_ ⟨0,by omega,rfl⟩;rintro x ⟨i,hi,rfl⟩;rcases Nat.lt_or_ge i b.2.2.2.1.length with hlt|hge
 ·have hl:b.2.2.2.1[i]?=some b.2.2.2.1[i]:=cA hlt;have hz:=tx h (cI hl);refine .inr ⟨(ĭ g.1 f t (b.2.2.2.1.take (i+1)),(i:Int)+1),⟨i+1,hlt,by simp⟩,by simp; omega,fun kn=>?_⟩
  try dsimp only
  unfold uO;have b1:=hlb i;have b2:=hlb (i+1)
  have e1:ĭ g.1 f t (b.2.2.2.1.take (i+1))=ĭ g.1 f t (b.2.2.2.1.take i)+(if b.2.2.2.1[i].1=g.1∧0<ĕ b.2.2.2.1[i] f t then ĕ b.2.2.2.1[i] f t*b.2.2.2.1[i].2.2 else 0):=by
   rw[take_succ hl,xF]; simp[ĭ]
  rw[Ñ hlt,È hl,Ó (by omega) (by omega),Xi,acC,Ó (by omega) (by omega),Ó (by omega) (by omega)];rw[show min b.2.2.2.1[i].2.1.2 (t-1)-max b.2.2.2.1[i].2.1.1 f+1=ĕ b.2.2.2.1[i] f t from rfl,Č]
  by_cases hid:b.2.2.2.1[i].1=g.1
  ·rw[if_pos (by simpa[ieq] using hid),Č]
   by_cases hd:0<ĕ b.2.2.2.1[i] f t
   ·have lb:=OW hz hf.1 hd;rw[if_pos ⟨hid,hd⟩] at e1;rw[if_pos (by simpa[igt] using hd),Ó (by omega) (by omega),Ó (by omega) (by omega),Ë hlt (by omega),e1]
   ·rw[if_neg (fun hc=>hd hc.2)] at e1;rw[if_neg (by simpa[igt] using hd),Ë hlt (by omega),e1,gA]
  ·rw[if_neg (fun hc=>hid hc.1)] at e1;rw[if_neg (by simpa[ieq] using hid),Ë hlt (by omega),e1,gA]
 ·refine .inl fun kn=>?_
  have:i=b.2.2.2.1.length:=by omega
  subst this
  try dsimp only
  unfold uO;rw[ß,List.take_length]
  have hud:∀x:List (Int×Int),x.length≤40→((x.filter fun u=>u.1==g.1&&inP u.2 f (t-1)).map fun u=>u.2).length≤40:=by
   intro x hx;rw[dz];exact cT (dY _ _) hx
  refine ģ b.2.2.1 (fun i=>((b.2.2.1.take i).filter fun u=>u.1==g.1&&inP u.2 f (t-1)).map fun u=>u.2) _ rfl (fun i u hi hu kn'=>?_) (fun kn'=>?_)
  ·try dsimp only
   unfold uN;have hx:=hud (b.2.2.1.take i) (by rw[List.length_take]; omega);rw[Ñ hi,È hu,Ó (by omega) (by omega),Φ,À,Û (by simp only[List.length_singleton]; omega),Am.iff_true,Ë hi (by omega),Ë hi (by omega),take_succ hu,List.filter_append,List.map_append]
   cases h1:(u.1==g.1) with
   |false =>
    have:ieq u.1 g.1=false:=h1;simp only[this,é,eo,h1,Bool.false_and,cS,if_false,fj,fg,cY]
   |true =>
    have:ieq u.1 g.1=true:=h1;rw[this]
    cases h2:inP u.2 f (t-1) with
    |false=>simp only[oo,é,eo,h1,h2,d9,cS,if_false,fj,fg,cY]
    |true=>simp only[oo,eo,h1,h2,d9,if_true,fj,fg,d8]
  ·try dsimp only
   unfold uN;rw[ß,List.take_length];rw[show((b.2.2.1.filter fun u=>u.1==g.1&&inP u.2 f (t-1)).map fun u=>u.2)=ip b g.1 f t from rfl];have h40:(ip b g.1 f t).length≤40:=hud _ hU
   have hc40:(VD (ip b g.1 f t)).length≤40:=by
    have:=Ik (ip b g.1 f t);omega
   have hm:0≤((VD (ip b g.1 f t)).length:Int)*g.2.2.2.2.2∧((VD (ip b g.1 f t)).length:Int)*g.2.2.2.2.2≤40*1048576 :=
    ⟨gC (by omega) hg.1,fN (by omega) hg.2 hg.1 (by omega)⟩
   have b1:=hlb b.2.2.2.1.length;rw[List.take_length] at b1;dsimp only;rw[Û (by omega),Am.iff_true,Û (by rw[SJ]; omega),Am.iff_true,abu,Ò,Ó (by omega) (by omega),Ó (by omega) (by omega)];rfl
def Ň (b:Ğ) (g:õ):List Lk :=
 [(0,atP (Ú b) [g.1] g.2.1,g.2.2.1+g.2.2.2.1.2),(atP (Ú b) [g.1] g.2.1,0,-(g.2.2.1+g.2.2.2.1.1))] ++
 (List.range ((å b g).length-1)).flatMap fun(k:Nat)=>[(atP (Ú b) [g.1] g.2.1+k,atP (Ú b) [g.1] g.2.1+k+1,0),(atP (Ú b) [g.1] g.2.1+k+1,atP (Ú b) [g.1] g.2.1+k,kH b g ((å b g)[k]?.getD 0) ((å b g)[k+1]?.getD 0))]
def cx (b:Ğ) (c:Cmp):Int:=atP (Ú b) (ý c.2.2.1 c.2.2.2.1) c.2.1
def cy (b:Ğ) (c:Cmp):Int:=atP (Ú b) (ý c.2.2.2.1 c.2.2.1) c.2.1
def iR (b:Ğ) (c:Cmp):List Lk:=[(cy b c,cx b c,(wn b c).2),(cx b c,cy b c,-(wn b c).1)]
def iN (b:Ğ):List Lk:=b.2.1.flatMap (Ň b)++b.2.2.2.2.1.flatMap (iR b)
def gN (b:Ğ) (i:Nat) (g:õ):List (Int×Int):=[(1,(i:Int)),(1,(i:Int))]++(List.range ((å b g).length-1)).flatMap fun _=>[(2,(i:Int)),(2,(i:Int))]
def Pw (b:Ğ):List (Int×Int):=(b.2.1.mapIdx (gN b)).flatten++(b.2.2.2.2.1.mapIdx fun i _=>[(3,(i:Int)),(3,(i:Int))]).flatten
section
variable {b:Ğ}
def abb (h:Ν b) {id day:Int} (hu:abc (iz b) id day=0):(0≤day∧day≤20000)∧∃g,þ b id=some g∧g.2.1≤day:=by
 unfold abc at hu
 split at hu
 ·omega
 ·rename_i hd;simp only[dO,Bool.not_eq_false,LQ,inP,cD,decide_eq_true_eq] at hd;exact⟨hd,E6 h hu⟩
def χ {g:õ} {d:Int}:d∈å b g↔d=g.2.1∨(∃c∈b.2.2.2.2.1,(c.2.2.1.contains g.1)≠(c.2.2.2.1.contains g.1)∧c.2.1=d)∨(∃n∈b.2.2.2.2.2,n.1=g.1∧n.2=d):=by
 unfold å;rw[Cc,U7];simp only[List.mem_append,List.mem_singleton,List.mem_map,List.mem_filter];constructor
 ·rintro((h|⟨c,⟨h1,h2⟩,h3⟩)|⟨n,⟨h1,h2⟩,h3⟩)
  ·exact .inl h
  ·exact .inr (.inl ⟨c,h1,by simpa using h2,h3⟩)
  ·exact .inr (.inr ⟨n,h1,by simpa using h2,h3⟩)
 ·rintro(h|⟨c,h1,h2,h3⟩|⟨n,h1,h2,h3⟩)
  ·exact .inl (.inl h)
  ·exact .inl (.inr ⟨c,⟨h1,by simpa using h2⟩,h3⟩)
  ·exact .inr ⟨n,⟨h1,by simpa using h2⟩,h3⟩
def Ν.gaugeR (h:Ν b) {g:õ} (hg:g∈b.2.1):Mu g.2.2.2.2.1=true∧(-1000≤g.2.2.2.2.1.1∧g.2.2.2.2.1.1≤1000)∧g.2.2.2.2.1.2≤100∧(1≤g.1∧g.1≤1099511627776)∧(0≤g.2.1∧g.2.1≤20000)∧(1≤g.2.2.1∧g.2.2.1≤1125899906842624)∧(-1073741824≤g.2.2.2.1.1∧g.2.2.2.1.1≤g.2.2.2.1.2∧g.2.2.2.1.2≤1073741824)∧(0≤g.2.2.2.2.2∧g.2.2.2.2.2≤1048576):=(O4 g).1 (h.gauge g hg)
def Ν.day (h:Ν b) {g:õ} (hg:g∈b.2.1) {d:Int} (hd:d∈å b g):g.2.1≤d∧0≤d∧d≤20000:=by
 have hr:=h.gaugeR hg;have hgo:=vd h.ids hg;rcases χ.1 hd with rfl|⟨c,hc,h1,rfl⟩|⟨n,hn,h1,rfl⟩
 ·have:=hr.2.2.2.2.1; omega
 ·have hn:=(jn c).1 (h.nums hc)
  have hx:g.1∈c.2.2.1++c.2.2.2.1:=by
   rw[cG]
   by_cases h2:g.1∈c.2.2.1
   ·exact .inl h2
   ·refine .inr ?_
    have e1:c.2.2.1.contains g.1=false:=by simpa using h2
    rw[e1] at h1
    have:c.2.2.2.1.contains g.1=true:=by cases hh:c.2.2.2.1.contains g.1<;>simp_all
    simpa using this
  obtain⟨⟨g',h3,h4⟩,_⟩:=h.pile hc hx;rw[hgo] at h3; cases h3;have:=hn.2.1;omega
 ·obtain⟨h2,g',h3,h4⟩:=abb h (h.looks n hn);rw[h1,hgo] at h3; cases h3;omega
def rE (g:õ):g.2.1∈å b g:=χ.2 (.inl rfl)
def RM (h:Ν b) {g:õ} (hg:g∈b.2.1):(å b g).length≤59:=by
 have h1:∀l:List õ,g∈l→(å b g).length≤(l.flatMap fun g=>(å b g).map fun d=>((g.1,d):Int×Int)).length:=by
  intro l
  induction l with
  |nil=>intro hg; cases hg
  |cons a t ih =>
   intro hg;rw[dw,cF,dz];rcases cH.1 hg with rfl|hg
   ·omega
   ·have:=ih hg; omega
 have:=h1 b.2.1 hg;have:=h.nodes;unfold Ú at this;omega
def adT {p:List Int} {d:Int}:0≤atP (Ú b) p d∧atP (Ú b) p d≤(Ú b).length:=by
 unfold atP
 cases p with
 |nil=>simp
 |cons x t =>
  try dsimp only
  cases h:jj (Ú b) x d with
  |none=>simp
  |some j=>have:=(jV h).1; dsimp only; omega
def I0 (h:Ν b) {c:Cmp} (hc:c∈b.2.2.2.2.1):(-1125904000000000≤(wn b c).1∧(wn b c).1≤1125904000000000)∧(-1125904000000000≤(wn b c).2∧(wn b c).2≤1125904000000000):=by
 obtain⟨r1,r2⟩:=h.rates hc;have hn:=(jn c).1 (h.nums hc);have ha:=jm hn.2.2.2.2.2.1;have hb:=jm hn.2.2.2.2.2.2;have hf:=h.film;obtain⟨g1,g2⟩:=YA (VQ r1 r2) hn.2.2.2.2.1;have fb:=LF (b:=b) (c:=c) (by omega) (by omega) (by omega) (by omega) (by omega) (by omega);have q1:ye (vc b c).1 2000000000 10000:=g1;have q2:ye (vc b c).2 2000000000 10000:=g2;have c1:=Pj q1;have c2:=LB q2;have n3:=hn.2.2.1;have n4:=hn.2.2.2.1;unfold wn
 try dsimp only
 omega
def uV (h:Ν b) {g:õ} (hg:g∈b.2.1) {f t:Int} (hf:0≤f):0≤kH b g f t∧kH b g f t≤12*(20001*1048576)+40*1048576:=by
 have hr:=(h.gaugeR hg).2.2.2.2.2.2.2;have h1:=rX (id:=g.1) (t:=t) hf (x:=b.2.2.2.1) fun l hl=>tx h hl;have h2:(b.2.2.2.1.length:Int)*(20001*1048576)≤12*(20001*1048576):=fh (by have:=h.nL; omega) (by omega)
 have h3:(ip b g.1 f t).length≤40:=by
  unfold ip;rw[List.length_map];exact Nat.le_trans (List.length_filter_le _ _) h.nU
 have h4:=Ik (ip b g.1 f t)
 have hm:0≤((VD (ip b g.1 f t)).length:Int)*g.2.2.2.2.2∧((VD (ip b g.1 f t)).length:Int)*g.2.2.2.2.2≤40*1048576 :=
  ⟨gC (by omega) hr.1,fN (by omega) hr.2 hr.1 (by omega)⟩
 unfold kH;omega
end
def tY {α β:Type} (f:Nat→α→β) {l:List α} {i:Nat} {a:α} (h:l[i]?=some a):(l.take (i+1)).mapIdx f=(l.take i).mapIdx f++[f i a]:=by
 have hi:i<l.length:=(cE.1 h).1
 have:(l.take i).length=i:=by rw[cW]; omega
 rw[take_succ h,List.mapIdx_append];simp[this]
def EQ {α:Type} (f:Nat→List α) (j:Nat):(List.range (j+1)).flatMap f=(List.range j).flatMap f++f j:=by
 rw[fE,ft]; simp
def oT {α:Type} (f:Nat→List α) (n:Nat) (h:∀k,(f k).length=2):((List.range n).flatMap f).length=2*n:=by
 induction n with
 |zero=>rfl
 |succ n ih=>rw[EQ,cF,ih,h]; omega
set_option maxHeartbeats 2000000 in
def aeL {b:Ğ} (h:Ν b):IG b=some (b,Ú b,(((Ú b).length:Int)+1,iN b),Pw b):=by
 unfold IG Q0;have hN:=h.nodes;have hG:=h.nG;have hC:=h.nC;rw[PS h.size,À,Ò,Ó (by omega) (by omega)]
 -- lengths of what comes
 have gl:∀g∈b.2.1,(Ň b g).length≤120∧∀i,(gN b i g).length≤120:=by
  intro g hg;have:=RM h hg;constructor
  ·unfold Ň;rw[List.length_append,oT _ _ (fun _=>rfl)];simp only[List.length_cons,List.length_nil]; omega
  ·intro i;unfold gN;rw[List.length_append,oT _ _ (fun _=>rfl)];simp only[List.length_cons,List.length_nil]; omega
 have gls:∀i,((b.2.1.take i).flatMap (Ň b)).length≤1440∧(((b.2.1.take i).mapIdx (gN b)).flatten).length≤1440:=by
  intro i
  induction i with
  |zero=>simp
  |succ i ih =>
   have key:∀i,i≤b.2.1.length→((b.2.1.take i).flatMap (Ň b)).length≤i*120∧(((b.2.1.take i).mapIdx (gN b)).flatten).length≤i*120:=by
    intro i
    induction i with
    |zero=>intro _; simp
    |succ i ih =>
     intro hi;have ih:=ih (by omega);have hg:b.2.1[i]?=some b.2.1[i]:=cA hi;have h2:=gl _ (cI hg);have h3:=h2.2 i;rw[tY _ hg,take_succ hg,ft,List.flatten_append,cF,cF];simp only[dw,List.flatMap_nil,cY,List.flatten_cons,List.flatten_nil];omega
   rcases cX b.2.1.length (i+1) with h1|h1
   ·rw[dX (by omega)];have:=key b.2.1.length (cB _);rw[fA] at this;omega
   ·have:=key (i+1) h1;omega
 refine ģ b.2.1 (fun i=>((b.2.1.take i).flatMap (Ň b),((b.2.1.take i).mapIdx (gN b)).flatten)) _ rfl (fun i g hi hg kn=>?_) (fun kn=>?_)
 ·try dsimp only
  unfold uM;have hgm:=List.mem_of_getElem? hg;have hr:=h.gaugeR hgm;have hd:=RM h hgm;have hls:=gls i;have hat:=adT (b:=b) (p:=[g.1]) (d:=g.2.1);rw[Ñ hi,È hg];rw[show ox ((b.1.1,b.1.2),b.2.1,b.2.2.1,b.2.2.2.1,b.2.2.2.2.1,b.2.2.2.2.2) g=ox b g from rfl,ac3 h.size,À];rw[ahp _ _ _ (by dsimp only; omega),À]
  try dsimp only
  have r1:=hr.2.2.2.2.2.1;have r2:=hr.2.2.2.2.2.2.1;rw[Ó (by omega) (by omega),Ó (by omega) (by omega),Ó (by omega) (by omega),Û (by simp only[cP,dR]; omega),Am.iff_true,Û (by simp only[cP,dR]; omega),Am.iff_true]
  refine Ę (fun x:Int×List Lk×List (Int×Int)=>∃j:Nat,j+1≤(å b g).length∧x.1=(j:Int)+1 ∧
   x.2.1=(b.2.1.take i).flatMap (Ň b)++([(0,atP (Ú b) [g.1] g.2.1,g.2.2.1+g.2.2.2.1.2),(atP (Ú b) [g.1] g.2.1,0,-(g.2.2.1+g.2.2.2.1.1))] ++
    (List.range j).flatMap fun(k:Nat)=>[(atP (Ú b) [g.1] g.2.1+k,atP (Ú b) [g.1] g.2.1+k+1,0),(atP (Ú b) [g.1] g.2.1+k+1,atP (Ú b) [g.1] g.2.1+k,kH b g ((å b g)[k]?.getD 0) ((å b g)[k+1]?.getD 0))]) ∧
   x.2.2=((b.2.1.take i).mapIdx (gN b)).flatten++([(1,(i:Int)),(1,(i:Int))]++(List.range j).flatMap fun _=>[(2,(i:Int)),(2,(i:Int))])) (fun x=>(å b g).length-x.1.toNat) ?_
   ⟨0,List.length_pos_of_mem (rE g),rfl,by simp,by simp⟩
  rintro⟨x1,ls,ss⟩ ⟨j,hj,e1,e2,e3⟩;dsimp only at e1 e2 e3 ⊢;subst e1
  have hlls:ls.length≤1562:=by
   rw[e2,cF,cF,oT _ _ (fun _=>rfl)];simp only[cP,dR]; omega
  have hlss:ss.length≤1562:=by
   rw[e3,cF,cF,oT _ _ (fun _=>rfl)];simp only[cP,dR]; omega
  rcases cX (j+1) (å b g).length with hlt|hge
  ·refine .inr ⟨((j:Int)+1+1,_,_),⟨j+1,hlt,by push_cast; rfl,rfl,rfl⟩,by dsimp only; omega,fun kn'=>?_⟩
   try dsimp only
   unfold uL
   have g1:(å b g)[j]?=some ((å b g)[j]?.getD 0):=by rw[cA (by omega)]; rfl
   have g2:(å b g)[j+1]?=some ((å b g)[j+1]?.getD 0):=by rw[cA hlt]; rfl
   have d1:=h.day hgm (cI g1);have d2:=h.day hgm (cI g2);have lb:=uV h hgm (t:=(å b g)[j+1]?.getD 0) d1.2.1
   have ec:((j:Int)+1)=((j+1:Nat):Int):=by push_cast; rfl
   rw[ec,Ñ hlt,Ó (by omega) (by omega),Ó (by omega) (by omega),Ó (by omega) (by omega),Ó (by omega) (by omega)];rw[show(((j+1:Nat):Int)-1)=((j:Nat):Int) by omega,È g1,È g2];rw[show yI ((b.1.1,b.1.2),b.2.1,b.2.2.1,b.2.2.2.1,b.2.2.2.2.1,b.2.2.2.2.2) (g.1,g.2.1,g.2.2.1,(g.2.2.2.1.1,g.2.2.2.1.2),(g.2.2.2.2.1.1,g.2.2.2.2.1.2),g.2.2.2.2.2) ((å b g)[j]?.getD 0) ((å b g)[j+1]?.getD 0)=yI b g ((å b g)[j]?.getD 0) ((å b g)[j+1]?.getD 0) from rfl];rw[agS h hr.2.2.2.2.2.2.2 ⟨by omega,by omega⟩ ⟨by omega,by omega⟩,À,Ó (by omega) (by omega),Ó (by omega) (by omega),Û (by simp only[cP,dR]; omega),Am.iff_true,Û (by simp only[cP,dR]; omega),Am.iff_true,Ë hlt (by omega)];rw[EQ,EQ,e2,e3]
   have a1:atP (Ú b) [g.1] g.2.1+((j+1:Nat):Int)-1=atP (Ú b) [g.1] g.2.1+(j:Int):=by push_cast; omega
   have a2:atP (Ú b) [g.1] g.2.1+((j+1:Nat):Int)=atP (Ú b) [g.1] g.2.1+(j:Int)+1:=by push_cast; omega
   have a3:0-(0-kH b g ((å b g)[j]?.getD 0) ((å b g)[j+1]?.getD 0))=kH b g ((å b g)[j]?.getD 0) ((å b g)[j+1]?.getD 0):=by omega
   rw[a1,a2,a3];simp only[cN]
  ·refine .inl fun kn'=>?_
   have hje:j+1=(å b g).length:=by omega
   unfold uL;rw[show((j:Int)+1)=(((å b g).length:Nat):Int) by rw[←hje]; push_cast; rfl,ß];dsimp only;rw[Ë hi (by omega)];rw[tY _ hg,take_succ hg,List.flatMap_append,List.flatten_append,e2,e3,show j=(å b g).length-1 by omega];simp only[List.flatMap_cons,List.flatMap_nil,List.append_nil,List.flatten_cons,List.flatten_nil];rfl
 ·try dsimp only
  unfold uM;rw[ß,List.take_length];have hls:=gls b.2.1.length;rw[List.take_length] at hls
  have cl:∀i,i≤b.2.2.2.2.1.length→((b.2.2.2.2.1.take i).flatMap (iR b)).length=2*i∧(((b.2.2.2.2.1.take i).mapIdx fun i _=>[((3:Int),(i:Int)),((3:Int),(i:Int))]).flatten).length=2*i:=by
   intro i
   induction i with
   |zero=>intro _; simp
   |succ i ih =>
    intro hi;have ih:=ih (by omega);have hg:b.2.2.2.2.1[i]?=some b.2.2.2.2.1[i]:=cA hi;rw[tY _ hg,take_succ hg,ft,List.flatten_append,cF,cF];simp only[dw,List.flatMap_nil,cY,List.flatten_cons,List.flatten_nil,iR,cP,dR];omega
  refine ģ b.2.2.2.2.1 (fun i=>(b.2.1.flatMap (Ň b)++(b.2.2.2.2.1.take i).flatMap (iR b),(b.2.1.mapIdx (gN b)).flatten++((b.2.2.2.2.1.take i).mapIdx fun i _=>[((3:Int),(i:Int)),((3:Int),(i:Int))]).flatten)) _ (by simp) (fun i c hi hc kn'=>?_) (fun kn'=>?_)
  ·try dsimp only
   unfold uK;have hcm:=List.mem_of_getElem? hc;have hn:=(jn c).1 (h.nums hcm);have ha:=jm hn.2.2.2.2.2.1;have hb:=jm hn.2.2.2.2.2.2;have sb:=I0 h hcm;have c1:=cl i (by omega);rw[Ñ hi,È hc,xH (by omega) (by omega),À,ahp _ _ _ (by dsimp only; omega),À,xH (by omega) (by omega),À,ahp _ _ _ (by dsimp only; omega),À];rw[show yH ((b.1.1,b.1.2),b.2.1,b.2.2.1,b.2.2.2.1,b.2.2.2.2.1,b.2.2.2.2.2) c=yH b c from rfl,h.says hcm,À];rw[Ó (by omega) (by omega),Û (by simp only[List.length_append,List.length_cons,List.length_nil]; omega),Am.iff_true,Û (by simp only[List.length_append,List.length_cons,List.length_nil]; omega),Am.iff_true,Ë hi (by omega),tY _ hc,take_succ hc,List.flatMap_append,List.flatten_append];simp only[List.flatMap_cons,List.flatMap_nil,List.append_nil,List.flatten_cons,List.flatten_nil,List.append_assoc,Int.zero_sub];rfl
  ·try dsimp only
   unfold uK;rw[ß,List.take_length];rfl
section
variable {ρ:Type}
def wv (w:List Bool) (v:Int):Bool:=w[v.toNat]?.getD false
def XW {w:List Bool} {u v:Int} (hu:0≤u) (hv:0≤v) (h:u.toNat<w.length) (y:Bool):wv (w.set u.toNat y) v=if v=u then y else wv w v:=by
 unfold wv;rw[List.getElem?_set]
 by_cases hvu:v=u
 ·subst hvu; simp[h]
 ·have:¬u.toNat=v.toNat:=by omega
  simp[hvu,this]
def jO {x:List Int} {v:Int} (h:v.toNat<x.length) (f:Int→Option ρ):Ľ x v.toNat f=f (gv x v):=iV (YS h) f
def PU {w:List Bool} {v:Int} (h:v.toNat<w.length) (f:Bool→Option ρ):Ľ w v.toNat f=f (wv w v):=by
 refine iV ?_ f;unfold wv; rw[List.getElem?_eq_getElem h]; rfl
def ŵ {v:Int} {n:Nat} (h0:0≤v) (h1:v<n) (x:Option ρ):è ((ile 0 v)&&(ilt v (n:Int))) x=x:=by
 have:((ile 0 v)&&(ilt v (n:Int)))=true:=by simp[ile,ilt,h0,h1]
 rw[this,Am.iff_true]
end
def pB (n least:Int):List Lk→List Int→List Bool→List Int→Bool×List Int×List Bool×List Int
 |[],x,w,q=>(true,x,w,q)
 |l::t,x,w,q =>
  if l.1≠n then pB n least t x w q else
  if gv x l.2.1≤gv x n+l.2.2 then pB n least t x w q else
  if gv x n+l.2.2<least then(false,x.set l.2.1.toNat (gv x n+l.2.2),w,q) else
  if wv w l.2.1 then pB n least t (x.set l.2.1.toNat (gv x n+l.2.2)) w q else pB n least t (x.set l.2.1.toNat (gv x n+l.2.2)) (w.set l.2.1.toNat true) (q++[l.2.1])
structure g9 (L:List Lk) (N:Nat) (M:Int):Prop where
 inr:InR L N
 noloop:∀l∈L,l.1≠l.2.1
 most:∀l∈L,-M≤l.2.2∧l.2.2≤M
 len:L.length≤400
 nodes:N≤1000
 m0:0≤M
 m1:M≤4503599627370496
set_option maxHeartbeats 1000000 in
def aeY {ρ:Type} {L:List Lk} {N:Nat} {M:Int} (hL:g9 L N M) {n least:Int} (hn:0≤n∧n<N) {x:List Int} {w:List Bool} {q:List Int} (hx:x.length=N) (hw:w.length=N) (hq:q.length≤1000000)
 (hb : -2305843009213693952≤gv x n∧gv x n≤2305843009213693952) (K0:(Val (.pair .bool (.pair (.slice tI) (.pair (.slice .bool) (.slice tI)))))→Option ρ) (K1:(Val (.pair (.slice tI) (.pair (.slice .bool) (.slice tI))))→Option ρ) :
 Ê (fun(v47:(Val (.pair tI (.pair (.slice tI) (.pair (.slice .bool) (.slice tI)))))) kk52=>iL [] least n L (Ø L) v47.1 v47.2.1 v47.2.2.1 v47.2.2.2 (fun u48 u49 u50 u51=>kk52 (u48,u49,u50,u51)) K0 K1) ((0:Int),x,w,q) =
  match pB n least L x w q with
  |(true,r)=>K1 r
  |(false,r)=>K0 (false,r):=by
 have hlen:=hL.len
 refine Ro L (fun i (s:List Int×List Bool×List Int) t=>match pB n least t s.1 s.2.1 s.2.2 with|(true,r)=>K1 r|(false,r)=>K0 (false,r))
  (fun i s=>s.1.length=N∧s.2.1.length=N∧gv s.1 n=gv x n∧s.2.2.length≤1000000+i) (fun s hs kn=>?_) (fun i l t s hd hi hl hI kn hk=>?_) (s:=(x,w,q)) ⟨hx,hw,rfl,by simpa using hq⟩
 ·try dsimp only
  unfold iL;rw[ß];rfl
 ·obtain⟨y,u,p⟩:=s;obtain⟨h1,h2,h3,h4⟩:=hI;dsimp only at h1 h2 h3 h4 hk ⊢;have hmem:l∈L:=List.mem_of_getElem? hl;have hr:=hL.inr l hmem;have hm:=hL.most l hmem;have hm1:=hL.m1;have hnl:=hL.noloop l hmem;unfold iL;rw[Ñ hi,È hl];unfold pB
  by_cases hln:l.1=n
  ·have e0:ine l.1 n=false:=by simp[ine,hln]
   rw[Ì e0];have e1:∀(f:Bool→Option ρ) (g:Option ρ),Iw (k:=tI) (v:=.bool) (i:Int) [] f g=g:=fun f g=>rfl;rw[e1,if_neg (by simp[hln])]
   have tn:n.toNat<y.length:=by omega
   have tt:l.2.1.toNat<y.length:=by omega
   have tu:l.2.1.toNat<u.length:=by omega
   rw[ŵ hn.1 (by omega),jO tn,Ó (by omega) (by omega),ŵ hr.2.1 (by omega),jO tt,Č]
   by_cases hge:gv y l.2.1≤gv y n+l.2.2
   ·rw[if_pos (by simpa[ige] using hge),if_pos hge,Ë hi (by omega)];exact hk (y,u,p) ⟨h1,h2,h3,by dsimp only; omega⟩
   ·rw[if_neg (by simpa[ige] using hge),if_neg hge]
    have hset:gv (y.set l.2.1.toNat (gv y n+l.2.2)) n=gv x n:=by
     rw[rt hr.2.1 hn.1 tt,if_neg (fun h=>hnl (hln.trans h)),h3]
    have hself:gv (y.set l.2.1.toNat (gv y n+l.2.2)) l.2.1=gv y n+l.2.2:=by
     rw[rt hr.2.1 hr.2.1 tt,if_pos rfl]
    rw[ŵ hn.1 (by omega),jO tn,Ó (by omega) (by omega),ŵ hr.2.1 (by omega),jO tt];rw[show(ñ (List.set y l.2.1.toNat (gv y n+l.2.2)))=((y.length:Nat):Int) by simp[ñ]];rw[ŵ hr.2.1 (by omega),jO (by simpa using tt),hself,Č]
    by_cases hlt:gv y n+l.2.2<least
    ·rw[if_pos (by simpa[ilt] using hlt),if_pos hlt]
    ·rw[if_neg (by simpa[ilt] using hlt),if_neg hlt,ŵ hr.2.1 (by omega),PU tu,Č]
     cases hwv:wv u l.2.1 with
     |true =>
      rw[if_neg (by simp),if_pos rfl,Ë hi (by omega)];exact hk (y.set l.2.1.toNat (gv y n+l.2.2),u,p) ⟨by simpa using h1,h2,hset,by dsimp only; omega⟩
     |false =>
      rw[if_pos (by simp),if_neg (by simp),Û (by simp only[dC]; omega),Am.iff_true,ŵ hr.2.1 (by omega),PU tu,Ë hi (by omega)];exact hk (y.set l.2.1.toNat (gv y n+l.2.2),u.set l.2.1.toNat true,p++[l.2.1]) ⟨by simpa using h1,by simpa using h2,hset,by simp only[cF,dC]; omega⟩
  ·have e0:ine l.1 n=true:=by simp[ine,hln]
   rw[Ù e0,if_pos hln,Ë hi (by omega)];exact hk (y,u,p) ⟨h1,h2,h3,by dsimp only; omega⟩
structure afP (N:Nat) (n least:Int) (L:List Lk) (x:List Int) (q:List Int) (x':List Int) (w':List Bool) (q':List Int):Prop where
 lx:x'.length=N
 lw:w'.length=N
 same:gv x' n=gv x n
 le:∀v:Int,0≤v→v<N→gv x' v≤gv x v
 link:∀v m,(n,v,m)∈L→gv x' v≤gv x n+m
 chg:∀v:Int,0≤v→v<N→gv x' v=gv x v∨(v∈q'∧gv x' v<gv x v∧∃m,(n,v,m)∈L∧gv x' v=gv x n+m∧least≤gv x' v)
 new:∃l,q'=q++l∧∀v∈l,(0≤v∧v<N)∧gv x' v<gv x v
 nodup:q'.Nodup
 waits:∀v:Int,0≤v→v<N→(wv w' v=true↔v∈q')
def j6 {N:Nat} {n least:Int} (hn:0≤n∧n<N):∀{L:List Lk},InR L N→(∀l∈L,l.1≠l.2.1)→∀{x:List Int} {w:List Bool} {q:List Int},x.length=N→w.length=N→q.Nodup→(∀v:Int,0≤v→v<N→(wv w v=true↔v∈q)) →
 ∀{x':List Int} {w':List Bool} {q':List Int},pB n least L x w q=(true,x',w',q')→afP N n least L x q x' w' q'
 |[],_,_,x,w,q,hx,hw,hq,hwq,x',w',q',h=>by
  cases h;exact⟨hx,hw,rfl,fun _ _ _=>dL _,fun _ _ h=>(by cases h),fun _ _ _=>.inl rfl,⟨[],by simp,fun _ h=>by cases h⟩,hq,hwq⟩
 |l::t,hL,hnl,x,w,q,hx,hw,hq,hwq,x',w',q',h=>by
  have hLt:InR t N:=fun l hl=>hL l (by simp[hl]);have hnt:∀l∈t,l.1≠l.2.1:=fun l hl=>hnl l (by simp[hl]);have hr:=hL l (by simp);have hl0:=hnl l (by simp);unfold pB at h
  split at h
  ·rename_i hne;have a:=j6 hn hLt hnt hx hw hq hwq h
   exact⟨a.lx,a.lw,a.same,a.le,fun v m hm=>by
    rcases cH.1 hm with rfl|hm
    ·exact(hne rfl).elim
    ·exact a.link v m hm,fun v h0 h1=>(a.chg v h0 h1).imp id fun⟨g1,g2,m,g3,g4⟩=>⟨g1,g2,m,by simp[g3],g4⟩,a.new,a.nodup,a.waits⟩
  ·rename_i hne
   have hln:l.1=n:=by simpa using hne
   split at h
   ·rename_i hle;have a:=j6 hn hLt hnt hx hw hq hwq h
    exact⟨a.lx,a.lw,a.same,a.le,fun v m hm=>by
     rcases cH.1 hm with rfl|hm
     ·have:=a.le v hr.2.1 hr.2.2; simp only at hle; omega
     ·exact a.link v m hm,fun v h0 h1=>(a.chg v h0 h1).imp id fun⟨g1,g2,m,g3,g4⟩=>⟨g1,g2,m,by simp[g3],g4⟩,a.new,a.nodup,a.waits⟩
   ·rename_i hgt
    split at h
    ·cases h
    ·rename_i hls
     have tt:l.2.1.toNat<x.length:=by omega
     have tw:l.2.1.toNat<w.length:=by omega
     have hy:(x.set l.2.1.toNat (gv x n+l.2.2)).length=N:=by simpa using hx
     have hyn:gv (x.set l.2.1.toNat (gv x n+l.2.2)) n=gv x n:=by
      rw[rt hr.2.1 hn.1 tt,if_neg (fun h=>hl0 (hln.trans h))]
     have hyv:∀v,0≤v→gv (x.set l.2.1.toNat (gv x n+l.2.2)) v=if v=l.2.1 then gv x n+l.2.2 else gv x v:=fun v h0=>rt hr.2.1 h0 tt _
     have hlm:(n,l.2.1,l.2.2)∈l::t:=by rw[←hln]; simp
     -- what both ways have in common
     have fin:∀{w1:List Bool} {q1:List Int},afP N n least t (x.set l.2.1.toNat (gv x n+l.2.2)) q1 x' w' q'→l.2.1∈q1→(∃l',q1=q++l'∧∀v∈l',v=l.2.1)→afP N n least (l::t) x q x' w' q':=by
      intro w1 q1 a hmem hq1;obtain⟨new,hnew,hnv⟩:=a.new;obtain⟨l',hl',hlv⟩:=hq1
      have hto:gv x' l.2.1≤gv x n+l.2.2:=by
       have:=a.le l.2.1 hr.2.1 hr.2.2;rw[hyv _ hr.2.1,if_pos rfl] at this;exact this
      refine⟨a.lx,a.lw,a.same.trans hyn,fun v h0 h1=>?_,fun v m hm=>?_,fun v h0 h1=>?_,⟨l'++new,by rw[hnew,hl',cN],fun v hv=>?_⟩,a.nodup,a.waits⟩
      ·have:=a.le v h0 h1;rw[hyv v h0] at this
       split at this
       ·rename_i e; subst e; omega
       ·exact this
      ·rcases cH.1 hm with rfl|hm
       ·exact hto
       ·have:=a.link v m hm
        rwa [hyn] at this
      ·rcases a.chg v h0 h1 with g|⟨g1,g2,m,g3,g4,g5⟩
       ·rw[hyv v h0] at g
        split at g
        ·rename_i e;subst e;exact .inr ⟨by rw[hnew]; exact du _ hmem,by omega,l.2.2,hlm,g,by omega⟩
        ·exact .inl g
       ·rw[hyv v h0] at g2;rw[hyn] at g4;refine .inr ⟨g1,?_,m,by simp[g3],g4,g5⟩
        split at g2
        ·rename_i e; subst e; omega
        ·exact g2
      ·rcases cG.1 hv with hv|hv
       ·rw[hlv v hv]; exact⟨hr.2,by omega⟩
       ·obtain⟨g1,g2⟩:=hnv v hv;rw[hyv v g1.1] at g2;refine⟨g1,?_⟩
        split at g2
        ·rename_i e; subst e; omega
        ·exact g2
     split at h
     ·rename_i hwt;exact fin (w1:=w) (j6 hn hLt hnt hy hw hq hwq h) ((hwq _ hr.2.1 hr.2.2).1 hwt) ⟨[],by simp,fun _ h=>by cases h⟩
     ·rename_i hwt;have hnq:l.2.1∉q:=fun hc=>hwt ((hwq _ hr.2.1 hr.2.2).2 hc);refine fin (w1:=w.set l.2.1.toNat true) (j6 hn hLt hnt hy (by simpa using hw) ?_ ?_ h) (by simp) ⟨[l.2.1],rfl,fun v hv=>by simpa using hv⟩
      ·rw[List.nodup_append];exact⟨hq,by simp,fun a ha b hb=>by simp at hb; subst hb; exact fun e=>hnq (e▸ha)⟩
      ·intro v h0 h1;rw[XW hr.2.1 h0 tw]
       by_cases hv:v=l.2.1
       ·simp[hv]
       ·simp only[hv,if_false,cG,cM,or_false];exact hwq v h0 h1
def nf {n least:Int}:∀{L:List Lk},(∀l∈L,l.1≠l.2.1)→(∀l∈L,0≤l.2.1)→0≤n→∀{x:List Int} {w:List Bool} {q:List Int} {r},pB n least L x w q=(false,r)→∃v m,(n,v,m)∈L∧gv x n+m<least
 |[],_,_,_,x,w,q,r,h=>by cases h
 |l::t,hnl,h0,hn,x,w,q,r,h=>by
  have hnt:∀l∈t,l.1≠l.2.1:=fun l hl=>hnl l (by simp[hl]);have h0t:∀l∈t,0≤l.2.1:=fun l hl=>h0 l (by simp[hl]);have up:(∃v m,(n,v,m)∈t∧gv x n+m<least)→∃v m,(n,v,m)∈l::t∧gv x n+m<least:=fun⟨v,m,g1,g2⟩=>⟨v,m,by simp[g1],g2⟩;unfold pB at h
  split at h
  ·exact up (nf hnt h0t hn h)
  ·rename_i hne
   have hln:l.1=n:=by simpa using hne
   split at h
   ·exact up (nf hnt h0t hn h)
   ·split at h
    ·rename_i hlt;exact⟨l.2.1,l.2.2,by rw[←hln]; simp,hlt⟩
    ·have hyn:gv (x.set l.2.1.toNat (gv x n+l.2.2)) n=gv x n:=by
      unfold gv;rw[List.getElem?_set];have h1:=hnl l (by simp);have h2:=h0 l (by simp)
      have:¬l.2.1.toNat=n.toNat:=by omega
      simp[this]
     split at h
     ·have:=nf hnt h0t hn h;rw[hyn] at this;exact up this
     ·have:=nf hnt h0t hn h;rw[hyn] at this;exact up this
def YB {ρ:Type} {L:List Lk} {N:Nat} {M:Int} (hL:g9 L N M) {n least:Int} (hn:0≤n∧n<N) {x:List Int} {w:List Bool} {t rest:List Int} (hx:x.length=N) (hw:w.length=N) (ht:t.length=N) (hq:rest.length≤1000000)
 (hb : -2305843009213693952≤gv x n∧gv x n≤2305843009213693952) (htn:0≤gv t n∧gv t n≤1000000) (kn:List Int→List Bool→List Int→List Int→Option ρ) (k0:(Val (.pair .bool (.pair (.slice tI) (.pair (.slice .bool) (.pair (.slice tI) (.slice tI))))))→Option ρ) :
 Ħ [] least (N:Int) L x w t (n::rest) kn k0 =
  if (N:Int)+1<gv t n+1 then k0 (false,x,w.set n.toNat false,t.set n.toNat (gv t n+1),rest) else
  match pB n least L x (w.set n.toNat false) rest with
  |(true,x',w',q')=>kn x' w' (t.set n.toNat (gv t n+1)) q'
  |(false,x',w',q')=>k0 (false,x',w',t.set n.toNat (gv t n+1),q'):=by
 have hN:=hL.nodes
 have tn:n.toNat<x.length:=by omega
 have tw:n.toNat<w.length:=by omega
 have tt:n.toNat<t.length:=by omega
 unfold Ħ
 have e0:ieq (Ø (n::rest)) 0=false:=by
  rw[Ò];simp only[ieq,cP,beq_eq_false_iff_ne,ne_eq];omega
 have e1:ilt (0:Int) (ñ (n::rest))=true:=by simp[ilt,ñ]
 have e2:ile (1:Int) (ñ (n::rest))=true:=by simp[ile,ñ]; omega
 have e3:decide (1+(List.length (n::rest)-1)=List.length (n::rest))=true:=by simp; omega
 rw[Ì e0,Đ e1];rw[show Ľ (n::rest) 0=fun(f:Int→Option ρ)=>f n from rfl]
 try dsimp only
 rw[Đ e2,Đ e3,ŵ hn.1 (by omega),PU tw,ŵ hn.1 (by omega),jO tt,Ó (by omega) (by omega),ŵ hn.1 (by omega),jO tt];rw[show(ñ (List.set t n.toNat (gv t n+1)))=((t.length:Nat):Int) by simp[ñ]];rw[ŵ hn.1 (by omega),jO (by simpa using tt),rt hn.1 hn.1 tt,if_pos rfl,Ó (by omega) (by omega),Č];rw[show List.drop 1 (n::rest)=rest from rfl]
 by_cases hlt:(N:Int)+1<gv t n+1
 ·rw[if_pos (by simpa[igt] using hlt),if_pos hlt]
 ·rw[if_neg (by simpa[igt] using hlt),if_neg hlt];rw[aeY hL hn hx (w:=w.set n.toNat false) (by simpa using hw) hq hb];generalize pB n least L x (w.set n.toNat false) rest=r;obtain⟨b,x',w',q'⟩:=r
  cases b<;>rfl
def abO {ρ:Type} {L:List Lk} {N:Int} {least:Int} {x:List Int} {w:List Bool} {t:List Int} (kn:List Int→List Bool→List Int→List Int→Option ρ) (k0:(Val (.pair .bool (.pair (.slice tI) (.pair (.slice .bool) (.pair (.slice tI) (.slice tI))))))→Option ρ) :
 Ħ [] least N L x w t [] kn k0=k0 (true,x,w,t,[]):=by
 unfold Ħ
 have e0:ieq (Ø ([]:List Int)) 0=true:=by rw[Ò]; rfl
 rw[Ù e0]
def Rr (N:Nat) (t:List Int):Nat:=(t.map fun a=>((N:Int)+2-a).toNat).sum
def YM (N:Nat):∀(t:List Int) (i:Nat) (a b:Int),t[i]?=some a→a<b→a<(N:Int)+2→Rr N (t.set i b)<Rr N t
 |a0::t,0,a,b,h,h1,h2=>by
  simp at h; subst h;simp only[Rr,List.set_cons_zero,d8,List.sum_cons];omega
 |a0::t,i+1,a,b,h,h1,h2=>by
  have:=YM N t i a b (by simpa using h) h1 h2;simp only[Rr] at this;simp only[Rr,List.set_cons_succ,d8,List.sum_cons];omega
def UO {N:Nat} {t:List Int} {n:Int} (hn:n.toNat<t.length) (h:gv t n≤(N:Int)+1):Rr N (t.set n.toNat (gv t n+1))<Rr N t :=
 YM N t n.toNat (gv t n) _ (YS hn) (by omega) (by omega)
structure aa1 (L:List Lk) (S:Int→Prop) (N:Nat) (M:Int) (k:Nat) (A B:List Int) (x:List Int) (w:List Bool) (t q:List Int):Prop where
 q_eq:q=A++B
 lx:x.length=N
 lw:w.length=N
 lt:t.length=N
 nodup:q.Nodup
 rng:∀v∈q,0≤v∧v<N
 waits:∀v:Int,0≤v→v<N→(wv w v=true↔v∈q)
 t0:∀v:Int,0≤v→v<N→0≤gv t v∧gv t v≤(k:Int)+1
 tA:∀v∈A,gv t v≤k
 low:∀vs v d,Wl L S vs v d→vs.length≤k→gv x v≤d
 nxt:∀vs u d,Wl L S vs u d→vs.length≤k→u∉A→∀v m,(u,v,m)∈L→gv x v≤d+m
 rel:∀u:Int,0≤u→u<N→u∉q→gv x u≠Ŗ→∀v m,(u,v,m)∈L→gv x v≤gv x u+m
 att:∀v:Int,0≤v→v<N→gv x v≠Ŗ→∃vs,Wl L S vs v (gv x v)
 bd:∀v:Int,0≤v→v<N→gv x v=Ŗ∨gv x v≤((k:Int)+1)*M
 bA:∀v∈A,gv x v≤(k:Int)*M
 fin:∀v∈q,gv x v<Ŗ
 kN:k+1≤N
 last:k+1=N→B=[]
section
variable {L:List Lk} {S:Int→Prop} {N:Nat} {M:Int} {p:Int→Int} {k:Nat} {A B x:List Int} {w:List Bool} {t q:List Int}
def Ip {a b:Nat} {M:Int} (h:a≤b) (hM:0≤M):(a:Int)*M≤(b:Int)*M:=fh (by omega) hM
def Wl.lt_free (hL:g9 L N M) (hNM:N*M<Ŗ) {vs:List Int} {v d:Int} (hw:Wl L S vs v d) (h:vs.length≤N):d<Ŗ:=by
 have h1:=hw.high fun l hl=>(hL.most l hl).2;have h2:=Ip h hL.m0;omega
def aa1.next (hL:g9 L N M) (hNM:N*M<Ŗ) (hS:∀v,S v→0≤v∧v<N) (h:aa1 L S N M k [] B x w t q) (hB:B≠[]):aa1 L S N M (k+1) B [] x w t q:=by
 have hM:=hL.m0
 have hq:q=B:=by simpa using h.q_eq
 have hk:k+1≠N:=fun e=>hB (h.last e);have hkN:=h.kN
 have low':∀vs v d,Wl L S vs v d→vs.length≤k+1→gv x v≤d:=by
  intro vs v d hw hl
  cases hw with
  |nil hs=>exact h.low [] v 0 (.nil hs) (by simp)
  | @step vs u _ m d hw hlk=>exact h.nxt vs u d hw (by simpa using hl) (by simp) v m hlk
 refine⟨by simp[hq],h.lx,h.lw,h.lt,h.nodup,h.rng,h.waits,fun v h0 h1=>⟨(h.t0 v h0 h1).1,by have:=(h.t0 v h0 h1).2; push_cast; omega⟩,fun v hv=>?_,low',fun vs u d hw hl hu v m hlk=>?_,h.rel,h.att,fun v h0 h1=>?_,fun v hv=>?_,h.fin,by omega,fun _=>rfl⟩
 ·have:=h.rng v (by rw[hq]; exact hv);have:=(h.t0 v this.1 this.2).2;push_cast; omega
 ·have h1:=low' vs u d hw hl;have h2:=hw.lt_free hL hNM (by omega);have h3:=(hw.range hL.inr hS).1;have:=h.rel u h3.1 h3.2 (by rw[hq]; exact hu) (by omega) v m hlk;omega
 ·rcases h.bd v h0 h1 with h2|h2
  ·exact .inl h2
  ·refine .inr ?_;have:=Ip (show k+1≤k+1+1 by omega) hM;push_cast at this ⊢;omega
 ·have h1:=h.rng v (by rw[hq]; exact hv);have h2:=h.fin v (by rw[hq]; exact hv);rcases h.bd v h1.1 h1.2 with h3|h3
  ·omega
  ·push_cast; exact h3
def aa1.step {n:Int} {A':List Int} {least:Int} {x':List Int} {w':List Bool} {q':List Int} (hL:g9 L N M) (hNM:N*M<Ŗ) (hp:Pot L p) (hS:∀v,S v→0≤v∧v<N) (h:aa1 L S N M k (n::A') B x w t q)
 (ha:afP N n least L x (A'++B) x' w' q'):∃B',aa1 L S N M k A' B' x' w' (t.set n.toNat (gv t n+1)) q':=by
 have hM:=hL.m0
 have hq:q=n::(A'++B):=by simpa using h.q_eq
 have hkN:=h.kN;have hnr:=h.rng n (by rw[hq]; simp);have hnf:=h.fin n (by rw[hq]; simp)
 have hnd:n∉A'++B:=by have:=h.nodup; rw[hq,eE] at this; exact this.1
 have htn:n.toNat<t.length:=by have:=h.lt; omega
 have tset:∀v,0≤v→gv (t.set n.toNat (gv t n+1)) v=if v=n then gv t n+1 else gv t v:=fun v h0=>rt hnr.1 h0 htn _
 have hkM:((k:Int)+1)*M<Ŗ:=by
  have:=Ip hkN hM;push_cast at this;omega
 have xle:∀v:Int,0≤v→v<N→gv x v≤Ŗ:=fun v h0 h1=>by rcases h.bd v h0 h1 with h2|h2<;>omega
 obtain⟨l,hl,hlv⟩:=ha.new
 have att':∀v:Int,0≤v→v<N→gv x' v≠Ŗ→∃vs,Wl L S vs v (gv x' v):=by
  intro v h0 h1 hne;rcases ha.chg v h0 h1 with g|⟨_,_,m,g3,g4,_⟩
  ·rw[g] at hne ⊢; exact h.att v h0 h1 hne
  ·obtain⟨vs,hw⟩:=h.att n hnr.1 hnr.2 (by omega);rw[g4]; exact⟨_,hw.step g3⟩
 refine⟨B++l,by rw[hl,cN],ha.lx,ha.lw,by rw[eQ]; exact h.lt,ha.nodup,fun v hv=>?_,ha.waits,fun v h0 h1=>?_,fun v hv=>?_,fun vs v d hw hlen=>?_,fun vs u d hw hlen hu v m hlk=>?_,
  fun u h0 h1 hu hf v m hlk=>?_,att',fun v h0 h1=>?_,fun v hv=>?_,fun v hv=>?_,hkN,fun hk=>?_⟩
 ·rw[hl] at hv;rcases cG.1 hv with hv|hv
  ·exact h.rng v (by rw[hq]; simp only[cH]; exact .inr hv)
  ·exact(hlv v hv).1
 ·rw[tset v h0];have h2:=h.t0 v h0 h1
  split
  ·have h3:=h.tA n (by simp);have h4:=h.t0 n hnr.1 hnr.2;omega
  ·exact h2
 ·have h1:=h.rng v (by rw[hq]; simp[hv]);rw[tset v h1.1,if_neg (fun e=>hnd (by rw[←e]; simp[hv]))];exact h.tA v (by simp[hv])
 ·have h1:=h.low vs v d hw hlen;have h2:=(hw.range hL.inr hS).1;have:=ha.le v h2.1 h2.2;omega
 ·have hvr:=(hL.inr _ hlk).2
  by_cases hun:u=n
  ·subst hun;have h1:=ha.link v m hlk;have h2:=h.low vs u d hw hlen;omega
  ·have h1:=h.nxt vs u d hw hlen (by simp[hun,hu]) v m hlk;have:=ha.le v hvr.1 hvr.2;omega
 ·have hvr:=(hL.inr _ hlk).2
  have heq:gv x' u=gv x u:=by
   rcases ha.chg u h0 h1 with g|⟨g,_⟩
   ·exact g
   ·exact(hu g).elim
  by_cases hun:u=n
  ·subst hun;have h1:=ha.link v m hlk;omega
  ·have hur:u∉q:=by
    rw[hq];intro hc;rcases cH.1 hc with e|hc
    ·exact hun e
    ·exact hu (by rw[hl]; exact du _ hc)
   have h2:=h.rel u h0 h1 hur (by rw[←heq]; exact hf) v m hlk;have:=ha.le v hvr.1 hvr.2;omega
 ·rcases ha.chg v h0 h1 with g|⟨_,_,m,g3,g4,_⟩
  ·rw[g]; exact h.bd v h0 h1
  ·have h2:=h.bA n (by simp);have h3:=(hL.most _ g3).2;simp only at h3;refine .inr ?_;rw[g4,fY,gj];omega
 ·have h1:=h.rng v (by rw[hq]; simp[hv]);have h2:=h.bA v (by simp[hv]);have:=ha.le v h1.1 h1.2;omega
 ·rw[hl] at hv;rcases cG.1 hv with hv|hv
  ·have h1:=h.rng v (by rw[hq]; simp only[cH]; exact .inr hv);have h2:=h.fin v (by rw[hq]; simp only[cH]; exact .inr hv);have:=ha.le v h1.1 h1.2;omega
  ·obtain⟨g1,g2⟩:=hlv v hv;have:=xle v g1.1 g1.2;omega
 ·rw[h.last hk]
  cases l with
  |nil=>rfl
  |cons v l =>
   exfalso;obtain⟨g1,g2⟩:=hlv v (by simp);have:=xle v g1.1 g1.2;obtain⟨vs,hw⟩:=att' v g1.1 g1.2 (by omega);obtain⟨vs',d',k1,k2,k3⟩:=hw.simple hp;have k4:=k1.short hL.inr hS k3;have:=h.low vs' v d' k1 (by omega);omega
def aa1.done (hL:g9 L N M) (hNM:N*M<Ŗ) (hp:Pot L p) (hS:∀v,S v→0≤v∧v<N) (h:aa1 L S N M k A B x w t []):aa3 L S N (gv x):=by
 have hkN:=h.kN;have hM:=hL.m0
 have hkM:((k:Int)+1)*M<Ŗ:=by
  have:=Ip hkN hM;push_cast at this;omega
 have key:∀vs v d,Wl L S vs v d→vs.length+1≤N→gv x v≤d:=by
  intro vs v d hw
  induction hw with
  |nil hs=>intro _; exact h.low [] _ 0 (.nil hs) (by simp)
  | @step vs u v m d hw hlk ih =>
   intro hlen;simp only[cP] at hlen;have h1:=ih (by omega);have h2:=hw.lt_free hL hNM (by omega);have h3:=(hw.range hL.inr hS).1;have:=h.rel u h3.1 h3.2 (by simp) (by omega) v m hlk;omega
 refine⟨h.att,fun v vs d hw=>?_,fun v h0 h1=>?_⟩
 ·obtain⟨vs',d',k1,k2,k3⟩:=hw.simple hp;have:=key vs' v d' k1 (k1.short hL.inr hS k3);omega
 ·rcases h.bd v h0 h1 with h2|h2<;>omega
def SH {ρ:Type} {r:Option ρ} (hL:g9 L N M) (hNM:N*M<Ŗ) (hp:Pot L p) (hS:∀v,S v→0≤v∧v<N) (k0:(Val (.pair .bool (.pair (.slice tI) (.pair (.slice .bool) (.pair (.slice tI) (.slice tI))))))→Option ρ)
 (hK:∀x w t q,x.length=N→aa3 L S N (gv x)→k0 (true,x,w,t,q)=r) (h:aa1 L S N M k A B x w t q) :
 Ê (fun(v64:(Val (.pair (.slice tI) (.pair (.slice .bool) (.pair (.slice tI) (.slice tI)))))) kk69=>Ħ [] (Io L) (N:Int) L v64.1 v64.2.1 v64.2.2.1 v64.2.2.2 (fun u65 u66 u67 u68=>kk69 (u65,u66,u67,u68)) k0) (x,w,t,q)=r:=by
 refine Ę (fun s:List Int×List Bool×List Int×List Int=>∃k A B,aa1 L S N M k A B s.1 s.2.1 s.2.2.1 s.2.2.2) (fun s=>Rr N s.2.2.1) ?_ ⟨k,A,B,h⟩;rintro⟨x,w,t,q⟩ ⟨k,A,B,h⟩;dsimp only at h ⊢;have hN:=hL.nodes
 cases q with
 |nil=>exact .inl fun kn=>by rw[abO]; exact hK x w t [] h.lx (h.done hL hNM hp hS)
 |cons n rest =>
  -- the phase in which the first one is
  have hph:∃k A' B,aa1 L S N M k (n::A') B x w t (n::rest):=by
   cases A with
   |nil =>
    have hB:B=n::rest:=by simpa using h.q_eq.symm
    subst hB;exact⟨k+1,rest,[],h.next hL hNM hS (by simp)⟩
   |cons a A' =>
    have:=h.q_eq;simp only[eV,List.cons.injEq] at this;obtain⟨rfl,_⟩:=this;exact⟨k,A',B,h⟩
  clear h k A B;obtain⟨k,A',B,h⟩:=hph
  have hrest:rest=A'++B:=by have:=h.q_eq; simpa using this
  have hnr:=h.rng n (by simp);have hnf:=h.fin n (by simp);have hkN:=h.kN;have h1:=h.tA n (by simp);have h2:=h.t0 n hnr.1 hnr.2;obtain⟨vs,hw⟩:=h.att n hnr.1 hnr.2 (by omega);have hlow:=hw.low' hp
  have hneg : -(400*4503599627370496)≤Io L:=by
   have:∀L':List Lk,(∀l∈L',-M≤l.2.2)→-((L'.length:Int)*M)≤Io L':=by
    intro L'
    induction L' with
    |nil=>intro _; simp[Io,Ho]
    |cons l t ih =>
     intro hh;have i1:=ih fun l hl=>hh l (by simp[hl]);have i2:=hh l (by simp);have i3:=hL.m0;unfold Io at i1 ⊢;simp only[Ho,if_true,List.length_cons,Int.natCast_succ,Int.add_mul,Int.one_mul];omega
   have h3:=this L fun l hl=>(hL.most l hl).1;have h4:(L.length:Int)*M≤400*4503599627370496:=fN (by have:=hL.len; omega) hL.m1 hL.m0 (by omega);omega
  have hrl:rest.length≤1000000:=by
   have:=Yq N (n::rest) h.nodup h.rng;simp only[cP] at this;omega
  refine .inr ?_
  have hw':(w.set n.toNat false).length=N:=by rw[eQ]; exact h.lw
  cases hr:pB n (Io L) L x (w.set n.toNat false) rest with
  |mk b r' =>
  obtain⟨x',w',q'⟩:=r'
  cases b with
  |false =>
   exfalso;obtain⟨v,m,g1,g2⟩:=nf hL.noloop (fun l hl=>(hL.inr l hl).2.1) hnr.1 hr;have:=(hw.step g1).low' hp;omega
  |true =>
   have hnd:=h.nodup;rw[eE] at hnd
   have ha:=j6 hnr hL.inr hL.noloop h.lx hw' hnd.2 (fun v h0 h1=>by
    rw[XW hnr.1 h0 (by have:=h.lw; omega)]
    by_cases hv:v=n
    ·subst hv; simp[hnd.1]
    ·rw[if_neg hv,h.waits v h0 h1]
     simp[hv]) hr
   rw[hrest] at ha;obtain⟨B',hB'⟩:=h.step hL hNM hp hS ha;refine⟨(x',w',t.set n.toNat (gv t n+1),q'),⟨k,A',B',hB'⟩,UO (by have:=h.lt; omega) (by omega),fun kn=>?_⟩;have hF:Ŗ=1152921504606846976:=rfl
   rw[YB hL hnr h.lx h.lw h.lt hrl (by constructor<;>omega) (by constructor<;>omega),if_neg (by omega),hr]
end
def Jh (f:Lk→Bool):∀(L L':List Lk),Ho f (L++L')=Ho f L+Ho f L'
 |[],L'=>by simp[Ho]
 |l::t,L'=>by
  simp only[eV,Ho,Jh f t L'];omega
def Tw {L:List Lk} {i:Nat} {l:Lk} (h:L[i]?=some l):Io (L.take (i+1))=Io (L.take i)+min l.2.2 0:=by
 rw[take_succ h,Io,Io,Jh];simp[Ho]
def imin0 (e:Int):YR e 0=min e 0:=by
 unfold YR
 split<;>omega
def Wj {L:List Lk} {M:Int} (h:∀l∈L,-M≤l.2.2) (hM:0≤M) : -((L.length:Int)*M)≤Io L:=by
 induction L with
 |nil=>simp[Io,Ho]
 |cons l t ih =>
  have i1:=ih fun l hl=>h l (by simp[hl]);have i2:=h l (by simp);unfold Io at i1 ⊢;simp only[Ho,if_true,List.length_cons,Int.natCast_succ,Int.add_mul,Int.one_mul];omega
def agQ (L:List Lk):Io L≤0:=tW _ L
section
variable {ρ:Type} {L:List Lk} {N:Nat} {M:Int}
def YO (hL:g9 L N M) (k0:Int→Option ρ):Ê (fun(v75:Val Ä) kk78=>ξ L (Ø L) v75.1 v75.2 (fun u76 u77=>kk78 (u76,u77)) k0) ((0:Int),(0:Int))=k0 (Io L):=by
 refine Ę (fun x:Int×Int=>∃i:Nat,i≤L.length∧x=(Io (L.take i),(i:Int))) (fun x=>L.length-x.2.toNat) ?_ ⟨0,by omega,rfl⟩;rintro x ⟨i,hi,rfl⟩;have hlen:=hL.len;rcases cX i L.length with h|h
 ·have hl:L[i]?=some L[i]:=cA h;refine .inr ⟨(Io (L.take (i+1)),(i:Int)+1),⟨i+1,h,by simp⟩,by simp; omega,fun kn=>?_⟩
  try dsimp only
  unfold ξ
  have hb:∀j,j≤L.length→-(400*4503599627370496)≤Io (L.take j):=by
   intro j hj;have h1:=Wj (L:=L.take j) (fun l hl=>(hL.most l (fL hl)).1) hL.m0;have h2:((L.take j).length:Int)*M≤400*4503599627370496:=fN (by rw[cW]; omega) hL.m1 hL.m0 (by omega);omega
  have h1:=hb i hi;have h2:=hb (i+1) h;have h3:=agQ (L.take i);rw[Tw hl] at h2;rw[Ñ h,È hl,imin0,Ó (by omega) (by omega),Ë h (by omega),Tw hl]
 ·refine .inl fun kn=>?_
  have:i=L.length:=by omega
  subst this
  try dsimp only
  unfold ξ;rw[ß,List.take_length]
def abo {x:List Int} (hx:x.length=N) (hN:N≤1000) {r:Option ρ} (k0:(Val (.pair (.slice .bool) (.slice tI)))→Option ρ)
 (hK:∀(w:List Bool) (q:List Int),w.length=N→q.Nodup→(∀v∈q,0≤v∧v<N)→(∀v:Int,0≤v→v<N→(wv w v=true↔v∈q))→(∀v:Int,0≤v→v<N→(v∈q↔gv x v≠Ŗ))→k0 (w,q)=r) :
 Ê (fun(v70:(Val (.pair tI (.pair (.slice .bool) (.slice tI))))) kk74=>ŏ (N:Int) x v70.1 v70.2.1 v70.2.2 (fun u71 u72 u73=>kk74 (u71,u72,u73)) k0) ((0:Int),(List.replicate N false),([]:List Int))=r:=by
 refine Ę (fun s:Int×List Bool×List Int=>∃i:Nat,i≤N∧s.1=i∧s.2.1.length=N∧s.2.2.Nodup∧s.2.2.length≤i∧(∀v∈s.2.2,0≤v∧v<i)∧(∀v:Int,0≤v→v<N→(wv s.2.1 v=true↔v∈s.2.2))∧(∀v:Int,0≤v→v<i→(v∈s.2.2↔gv x v≠Ŗ))) (fun s=>N-s.1.toNat) ?_
  ⟨0,by omega,rfl,by simp,by simp,by simp,by simp,fun v h0 h1=>?_,fun v h0 h1=>by omega⟩
 ·rintro⟨s,w,q⟩ ⟨i,hi,h1,h2,h3,h4,h5,h6,h7⟩;simp only at h1 h2 h3 h4 h5 h6 h7;subst h1;rcases cX i N with h|h
  ·refine .inr ?_
   have hix:i<x.length:=by omega
   have hiw:i<w.length:=by omega
   have hnq:((i:Int))∉q:=fun hc=>by have:=(h5 _ hc).2; omega
   by_cases hf:gv x i=Ŗ
   ·refine⟨((i:Int)+1,w,q),⟨i+1,h,by simp,h2,h3,by simp only; omega,fun v hv=>⟨(h5 v hv).1,by have:=(h5 v hv).2; push_cast; omega⟩,h6,fun v h0 h1=>?_⟩,by simp; omega,fun kn=>?_⟩
    ·by_cases hv:v=i
     ·subst hv; simp[hf,hnq]
     ·exact h7 v h0 (by push_cast at h1; omega)
    ·try dsimp only
     unfold ŏ
     have e:ilt (i:Int) (N:Int)=true:=by simp[ilt,h]
     rw[Ù e,š hix,jO (by simpa using hix)]
     have e2:ine (gv x i) 1152921504606846976=false:=by simp[ine,hf]
     rw[Ì e2,Ë h (by omega)]
   ·refine⟨((i:Int)+1,w.set i true,q++[(i:Int)]),⟨i+1,h,by simp,by simpa using h2,?_,by simp; omega,fun v hv=>?_,fun v h0 h1=>?_,fun v h0 h1=>?_⟩,by simp; omega,fun kn=>?_⟩
    ·rw[List.nodup_append];exact⟨h3,by simp,fun a ha b hb=>by simp at hb; subst hb; exact fun e=>hnq (e▸ha)⟩
    ·rcases cG.1 hv with hv|hv
     ·exact⟨(h5 v hv).1,by have:=(h5 v hv).2; push_cast; omega⟩
     ·simp at hv; subst hv; push_cast; omega
    ·have:=XW (w:=w) (u:=(i:Int)) (by omega) h0 (by simpa using hiw) true;rw[cQ] at this;show wv (w.set i true) v=true↔v∈q++[(i:Int)];rw[this]
     by_cases hv:v=i
     ·simp[hv]
     ·simp only[hv,if_false,cG,cM,or_false];exact h6 v h0 h1
    ·show v∈q++[(i:Int)]↔_
     by_cases hv:v=i
     ·subst hv; simp[hf]
     ·simp only[cG,cM,hv,or_false];exact h7 v h0 (by push_cast at h1; omega)
    ·try dsimp only
     unfold ŏ
     have e:ilt (i:Int) (N:Int)=true:=by simp[ilt,h]
     rw[Ù e,š hix,jO (by simpa using hix)]
     have e2:ine (gv x i) 1152921504606846976=true:=by simp[ine,hf]
     rw[Ù e2,Û (by simp only[dC]; omega),Am.iff_true,š hiw,PU (by simpa using hiw),Ë h (by omega),cQ]
  ·refine .inl fun kn=>?_
   have:i=N:=by omega
   subst this
   try dsimp only
   unfold ŏ
   have e:ilt (i:Int) (i:Int)=false:=by simp[ilt]
   rw[Ì e];exact hK w q h2 h3 h5 h6 h7
 ·have:wv (List.replicate N false) v=false:=by
   unfold wv;rw[List.getElem?_replicate]
   split<;>rfl
  simp[this]
def N8 (hL:g9 L N M) (hN:1≤N) {S:Int→Bool} (hS:∀v,S v=true→0≤v∧v<N) {w:List Bool} {q:List Int} (hw:w.length=N) (hq:q.Nodup) (hr:∀v∈q,0≤v∧v<N) (hwq:∀v:Int,0≤v→v<N→(wv w v=true↔v∈q)) (hqs:∀v:Int,0≤v→v<N→(v∈q↔gv (tS S N) v≠Ŗ)) :
 aa1 L (fun v=>S v=true) N M 0 q [] (tS S N) w (List.replicate N 0) q:=by
 have ht:∀v:Int,0≤v→v<N→gv (List.replicate N (0:Int)) v=0:=by
  intro v h0 h1;unfold gv;rw[List.getElem?_replicate]
  split<;>rfl
 have hg:∀v:Int,0≤v→v<N→(v∈q↔S v=true):=by
  intro v h0 h1;rw[hqs v h0 h1,iu S h0 h1]
  cases S v<;>simp[Ŗ]
 have hM:=hL.m0;refine⟨by simp,ċ S N,hw,by simp,hq,hr,hwq,fun v h0 h1=>?_,fun v hv=>?_,fun vs v d hw hl=>?_,fun vs u d hw hl hu v m hlk=>?_,fun u h0 h1 hu hf v m hlk=>?_,fun v h0 h1 hf=>?_,fun v h0 h1=>?_,fun v hv=>?_,fun v hv=>?_,by omega,fun _=>rfl⟩
 ·rw[ht v h0 h1]; omega
 ·have:=hr v hv;rw[ht v this.1 this.2]; omega
 ·cases hw with
  |nil hs =>
   have:=hS v hs;rw[iu S this.1 this.2,if_pos hs]; omega
  |step=>simp at hl
 ·cases hw with
  |nil hs =>
   have:=hS u hs;exact(hu ((hg u this.1 this.2).2 hs)).elim
  |step=>simp at hl
 ·rw[iu S h0 h1] at hf;have:=mt (hg u h0 h1).2 hu;rw[if_neg this] at hf;exact(hf rfl).elim
 ·rw[iu S h0 h1] at hf ⊢
  split at hf
  ·rename_i hs;rw[if_pos hs]; exact⟨[],.nil hs⟩
  ·exact(hf rfl).elim
 ·rw[iu S h0 h1]
  split
  ·exact .inr (by simp[hM])
  ·exact .inl rfl
 ·have h1:=hr v hv;rw[iu S h1.1 h1.2,if_pos ((hg v h1.1 h1.2).1 hv)]; simp
 ·have h1:=hr v hv;rw[iu S h1.1 h1.2,if_pos ((hg v h1.1 h1.2).1 hv)]; simp[Ŗ]
structure Bad (L:List Lk) (N:Nat) (x:List Int) (w:List Bool) (t q:List Int):Prop where
 lx:x.length=N
 lw:w.length=N
 lt:t.length=N
 nodup:q.Nodup
 rng:∀v∈q,0≤v∧v<N
 waits:∀v:Int,0≤v→v<N→(wv w v=true↔v∈q)
 t0:∀v:Int,0≤v→v<N→0≤gv t v∧gv t v≤(N:Int)+1
 bd:∀v:Int,0≤v→v<N→-2305843009213693952≤gv x v∧gv x v≤0
 rel:∀u:Int,0≤u→u<N→u∉q→∀v m,(u,v,m)∈L→gv x v≤gv x u+m
def ael {r:Option ρ} {x:List Int} {w:List Bool} {t q:List Int} (hL:g9 L N M) (hp:¬∃p,Pot L p) (k0:(Val (.pair .bool (.pair (.slice tI) (.pair (.slice .bool) (.pair (.slice tI) (.slice tI))))))→Option ρ)
 (hK:∀x w t q,k0 (false,x,w,t,q)=r) (h:Bad L N x w t q) :
 Ê (fun(v64:(Val (.pair (.slice tI) (.pair (.slice .bool) (.pair (.slice tI) (.slice tI)))))) kk69=>Ħ [] (Io L) (N:Int) L v64.1 v64.2.1 v64.2.2.1 v64.2.2.2 (fun u65 u66 u67 u68=>kk69 (u65,u66,u67,u68)) k0) (x,w,t,q)=r:=by
 refine Ę (fun s:List Int×List Bool×List Int×List Int=>Bad L N s.1 s.2.1 s.2.2.1 s.2.2.2) (fun s=>Rr N s.2.2.1) ?_ h;rintro⟨x,w,t,q⟩ h;dsimp only at h ⊢;have hN:=hL.nodes
 cases q with
 |nil =>
  exfalso;exact hp ⟨gv x,fun u v m hl=>h.rel u (hL.inr _ hl).1.1 (hL.inr _ hl).1.2 (by simp) v m hl⟩
 |cons n rest =>
  have hnr:=h.rng n (by simp);have hb:=h.bd n hnr.1 hnr.2;have ht:=h.t0 n hnr.1 hnr.2
  have hrl:rest.length≤1000000:=by
   have:=Yq N (n::rest) h.nodup h.rng;simp only[cP] at this;omega
  have hout:=fun(kn:List Int→List Bool→List Int→List Int→Option ρ)=>YB (ρ:=ρ) hL (least:=Io L) hnr h.lx h.lw h.lt hrl ⟨hb.1,by omega⟩ ⟨ht.1,by omega⟩ kn k0
  by_cases hlt:(N:Int)+1<gv t n+1
  ·exact .inl fun kn=>by rw[hout,if_pos hlt]; exact hK _ _ _ _
  ·have hw':(w.set n.toNat false).length=N:=by rw[eQ]; exact h.lw
   cases hr:pB n (Io L) L x (w.set n.toNat false) rest with
   |mk b r' =>
   obtain⟨x',w',q'⟩:=r'
   cases b with
   |false=>exact .inl fun kn=>by rw[hout,if_neg hlt,hr]; exact hK _ _ _ _
   |true =>
    have hnd:=h.nodup;rw[eE] at hnd
    have htl:n.toNat<t.length:=by have:=h.lt; omega
    have ha:=j6 hnr hL.inr hL.noloop h.lx hw' hnd.2 (fun v h0 h1=>by
     rw[XW hnr.1 h0 (by have:=h.lw; omega)]
     by_cases hv:v=n
     ·subst hv; simp[hnd.1]
     ·rw[if_neg hv,h.waits v h0 h1]
      simp[hv]) hr
    obtain⟨l,hl,hlv⟩:=ha.new;refine .inr ⟨(x',w',t.set n.toNat (gv t n+1),q'),⟨ha.lx,ha.lw,by rw[eQ]; exact h.lt,ha.nodup,fun v hv=>?_,ha.waits,fun v h0 h1=>?_,fun v h0 h1=>?_,fun u h0 h1 hu v m hlk=>?_⟩,UO htl (by omega),fun kn=>by rw[hout,if_neg hlt,hr]⟩
    ·dsimp only at hv;rw[hl] at hv;rcases List.mem_append.1 hv with hv|hv
     ·exact h.rng v (by simp[hv])
     ·exact(hlv v hv).1
    ·try dsimp only
     rw[rt hnr.1 h0 htl];have:=h.t0 v h0 h1
     split<;>omega
    ·try dsimp only
     have h2:=h.bd v h0 h1;rcases ha.chg v h0 h1 with g|⟨_,g2,m,g3,g4,g5⟩
     ·rw[g]; exact h2
     ·have h3:=Wj (L:=L) (fun l hl=>(hL.most l hl).1) hL.m0;have h4:(L.length:Int)*M≤400*4503599627370496:=fN (by have:=hL.len; omega) hL.m1 hL.m0 (by omega);omega
    ·dsimp only at hu ⊢;have hvr:=(hL.inr _ hlk).2
     have heq:gv x' u=gv x u:=by
      rcases ha.chg u h0 h1 with g|⟨g,_⟩
      ·exact g
      ·exact(hu g).elim
     by_cases hun:u=n
     ·subst hun;have h1:=ha.link v m hlk;omega
     ·have hur:u∉n::rest:=by
       intro hc;rcases cH.1 hc with e|hc
       ·exact hun e
       ·exact hu (by rw[hl]; exact du _ hc)
      have h2:=h.rel u h0 h1 hur v m hlk;have:=ha.le v hvr.1 hvr.2;omega
end
def aa0 (N:Nat) (v:Int):Bool:=decide (0≤v)&&decide (v<(N:Int))
def ad9 (s:Int) (v:Int):Bool:=v==s
def SG (N:Nat):tS (aa0 N) N=List.replicate N 0:=by
 refine YT (by simp[ċ]) fun v h0 h1=>?_;rw[ċ] at h1;rw[iu _ h0 h1]
 have:aa0 N v=true:=by simp[aa0,h0,h1]
 rw[if_pos this];unfold gv;rw[List.getElem?_replicate]
 split<;>rfl
def iv (L:List Lk) (N:Nat):List Int:=kg L N (tS (aa0 N) N)
def kj (L:List Lk) (N:Nat):Bool:=decide (Hm L (iv L N)=iv L N)
def ya (L:List Lk) (N:Nat) (s:Int):List Int:=kg L N (tS (ad9 s) N)
section
variable {L:List Lk} {N:Nat} {M:Int}
def aeJ (hL:g9 L N M) (hN:N≤200):N*M<Ŗ:=by
 have:(N:Int)*M≤200*4503599627370496:=Int.mul_le_mul (by omega) hL.m1 hL.m0 (by omega);unfold Ŗ;omega
def EL {p:Int→Int} (hL:g9 L N M) (hN:N≤200) (hp:Pot L p):aa3 L (fun v=>aa0 N v=true) N (gv (iv L N)) :=
 Ja hp hL.inr (fun v h=>by simpa[aa0] using h) (fun l hl=>(hL.most l hl).2) hL.m0 (aeJ hL hN) N (by omega)
def BT {p:Int→Int} (hL:g9 L N M) (hN:N≤200) (hp:Pot L p) {s:Int} (hs:0≤s∧s<N):aa3 L (fun v=>ad9 s v=true) N (gv (ya L N s)) :=
 Ja hp hL.inr (fun v h=>by simp[ad9] at h; subst h; exact hs) (fun l hl=>(hL.most l hl).2) hL.m0 (aeJ hL hN) N (by omega)
def S6:∀{L:List Lk} {x:List Int},(∀u v m,(u,v,m)∈L→gv x u<Ŗ→gv x v≤gv x u+m)→Hm L x=x
 |[],x,_=>rfl
 |l::t,x,h=>by
  have h1:lr x l=x:=by
   unfold lr
   split
   ·rename_i hc;have:=h l.1 l.2.1 l.2.2 (by simp) hc.1;omega
   ·rfl
  show Hm t (lr x l)=x;rw[h1];exact S6 fun u v m hm=>h u v m (by simp[hm])
def ki (hL:g9 L N M) (hN:N≤200):kj L N=true↔∃p,Pot L p:=by
 unfold kj;rw[decide_eq_true_eq]
 have hle:∀v:Int,0≤v→v<N→gv (iv L N) v≤0:=by
  intro v h0 h1;have:=Ce hL.inr N (ċ (aa0 N) N) v h0;rw[iu _ h0 h1,if_pos (by simp[aa0,h0,h1])] at this;exact this
 constructor
 ·intro h;refine⟨gv (iv L N),fun u v m hl=>?_⟩;have hr:=(hL.inr _ hl).1;have:=ET hL.inr (x:=iv L N) (by unfold iv; rw[ř,ċ]) u v m hl (by have:=hle u hr.1 hr.2; unfold Ŗ; omega)
  rwa [h] at this
 ·rintro⟨p,hp⟩;have hd:=EL hL hN hp;exact S6 fun u v m hl hf=>hd.pot hL.inr hl (by omega)
end
section
variable {ρ:Type} {L:List Lk} {N:Nat} {M:Int}
def D0 (hN:N≤1000) (x:Option ρ):è ((ile (0:Int) (N:Int))&&(î (Int.toNat (N:Int)))) x=x:=by
 rw[cQ,Û (by omega)]
 have:((ile (0:Int) (N:Int))&&true)=true:=by simp[ile]
 rw[this,Am.iff_true]
def V6 (hL:g9 L N M) (h1:1≤N) (hN:N≤200) (k0:(Val (.pair .bool (.pair (.slice tI) (.pair (.slice .bool) (.pair (.slice tI) (.slice tI))))))→Option ρ) {rT rF:Option ρ}
 (hT:kj L N=true→∀w t q,k0 (true,iv L N,w,t,q)=rT) (hF:∀x w t q,k0 (false,x,w,t,q)=rF) :
 (Ê (fun(v70:(Val (.pair tI (.pair (.slice .bool) (.slice tI))))) kk74=>ŏ (N:Int) (List.replicate N (0:Int)) v70.1 v70.2.1 v70.2.2 (fun u71 u72 u73=>kk74 (u71,u72,u73)) (fun z9=>Ê (fun(v64:(Val (.pair (.slice tI) (.pair (.slice .bool) (.pair (.slice tI) (.slice tI)))))) kk69=>Ħ [] (Io L) (N:Int) L v64.1 v64.2.1 v64.2.2.1 v64.2.2.2 (fun u65 u66 u67 u68=>kk69 (u65,u66,u67,u68)) k0) ((List.replicate N (0:Int)),z9.1,(List.replicate N (0:Int)),z9.2))) ((0:Int),(List.replicate N false),([]:List Int)))=if kj L N then rT else rF:=by
 refine abo (by simp) (by omega) _ fun w q hw hq hr hwq hqs=>?_
 try dsimp only
 have hS:∀v,aa0 N v=true→0≤v∧v<N:=fun v h=>by simpa[aa0] using h
 by_cases ho:kj L N=true
 ·rw[if_pos ho];obtain⟨p,hp⟩:=(ki hL hN).1 ho;have hs:=N8 hL h1 hS hw hq hr hwq (fun v a b=>by rw[SG]; exact hqs v a b);rw[SG] at hs;refine SH hL (aeJ hL hN) hp hS k0 (fun x w t q hx hd=>?_) hs
  have:x=iv L N:=by
   refine YT (by rw[hx]; unfold iv; rw[ř,ċ]) fun v a b=>?_;exact hd.uniq (EL hL hN hp) a (by omega)
  rw[this]; exact hT ho w t q
 ·rw[if_neg ho];refine ael hL (fun hp=>ho ((ki hL hN).2 hp)) k0 hF ?_
  have hg:∀v,gv (List.replicate N (0:Int)) v=0:=by
   intro v;unfold gv;rw[List.getElem?_replicate]
   split<;>rfl
  refine⟨by simp,hw,by simp,hq,hr,hwq,fun v a b=>?_,fun v a b=>?_,fun u a b hu v m hl=>?_⟩
  ·rw[hg]; omega
  ·rw[hg]; omega
  ·exact(hu ((hqs u a b).2 (by rw[hg]; unfold Ŗ; omega))).elim
end
def shift_ok {ρ:Type} {x:List Int} (f:Int) (hx:x.length≤1000) (hf : -2305843009213693952≤f∧f≤2305843009213693952) (hb:∀a∈x,-2305843009213693952≤a∧a≤2305843009213693952) (k0:List Int→Option ρ) :
 Ê (fun(v60:(Val (.pair tI (.slice tI)))) kk63=>iK f (Ø x) v60.1 v60.2 (fun u61 u62=>kk63 (u61,u62)) k0) ((0:Int),x)=k0 (x.map fun a=>a-f):=by
 refine ģ x (fun i=>(x.take i).map (fun a=>a-f)++x.drop i) _ (by simp) (fun i a hi ha kn=>?_) (fun kn=>?_)
 ·try dsimp only
  unfold iK
  have hlen:((x.take i).map (fun a=>a-f)++x.drop i).length=x.length:=by simp; omega
  have hget:((x.take i).map (fun a=>a-f)++x.drop i)[i]?=some a:=by
   rw[fH (by simp; omega)];simp only[dz,cW,ee];rw[←ha]; congr 1; omega
  have hi':i<((x.take i).map (fun a=>a-f)++x.drop i).length:=by omega
  have ha':=hb a (cI ha);rw[Ñ hi,š hi',Ė hget,Ó (by omega) (by omega),š hi',Ė hget,Ë hi (by omega),cQ,take_succ ha];congr 2;rw[dv hi,ff,cN,f7 _ _ (by simp; omega)]
  have:i-(List.map (fun a=>a-f) (List.take i x)).length=0:=by simp; omega
  rw[this]
  have h1:x[i]=a:=by rw[cA hi] at ha; simpa using ha
  simp[h1]
 ·try dsimp only
  unfold iK;rw[ß];simp
section
variable {L:List Lk} {N:Nat} {M:Int}
def aem (hL:g9 L N M) (hN:N≤200) (ho:kj L N=true):∀a∈iv L N,-2305843009213693952≤a∧a≤0:=by
 obtain⟨p,hp⟩:=(ki hL hN).1 ho;have hd:=EL hL hN hp;intro a ha;obtain⟨i,hi,rfl⟩:=cO.1 ha
 have hlen:(iv L N).length=N:=by unfold iv; rw[ř,ċ]
 have h0:gv (iv L N) i=(iv L N)[i]:=by unfold gv; simp[hi]
 have hle:=Ce hL.inr N (ċ (aa0 N) N) (i:Int) (by omega);rw[iu _ (by omega) (by omega),if_pos (by simp[aa0]; omega)] at hle;have hle':gv (iv L N) i≤0:=hle;obtain⟨vs,hw⟩:=hd.att i (by omega) (by omega) (by unfold Ŗ; omega);have h1:=hw.low' hp;have h3:=Wj (L:=L) (fun l hl=>(hL.most l hl).1) hL.m0;have h4:(L.length:Int)*M≤400*4503599627370496:=Int.mul_le_mul (by have:=hL.len; omega) hL.m1 hL.m0 (by omega);omega
def solP (L:List Lk) (N:Nat):List Int:=(iv L N).map fun a=>a-gv (iv L N) 0
def tT (hL:g9 L N M) (h1:1≤N) (hN:N≤200):j7 ((N:Int),L) []=some (if kj L N then(solP L N,true) else([],false)):=by
 unfold j7 xj
 try dsimp only
 rw[D0 (by omega),D0 (by omega),D0 (by omega),cQ];refine eh (YO hL _) ?_;refine eh (V6 hL h1 hN _ (rT:=some (solP L N,true)) (rF:=some ([],false)) (fun ho w t q=>?_) (fun x w t q=>?_)) ?_
 ·try dsimp only
  have hlen:(iv L N).length=N:=by unfold iv; rw[ř,ċ]
  have hb:=aem hL hN ho;have h0:ilt (0:Int) (ñ (iv L N))=true:=decide_eq_true (show(0:Int)<((iv L N).length:Int) by omega);have hg:(iv L N)[0]?=some (gv (iv L N) 0):=YS (v:=0) (show 0<_ by omega);have hm:=hb _ (cI hg);rw[show(!true)=false from rfl,é,Đ h0,iV hg];exact shift_ok _ (by omega) ⟨hm.1,by omega⟩ (fun a ha=>⟨(hb a ha).1,by have:=(hb a ha).2; omega⟩) _
 ·rfl
 ·cases kj L N<;>rfl
structure ja (L:List Lk) (N:Nat):Prop where
 n1:1≤N
 n60:N≤60
 len:L.length≤300
 inr:InR L N
 noloop:∀l∈L,l.1≠l.2.1
 most:∀l∈L,-4503599627370496≤l.2.2∧l.2.2≤4503599627370496
def ja.links (h:ja L N):g9 L N 4503599627370496 :=
 ⟨h.inr,h.noloop,h.most,by have:=h.len; omega,by have:=h.n60; omega,by omega,by omega⟩
def Wi (n:Int) (L:List Lk) (v:Int):yG (n,L) v=some (decide (0≤v)&&decide (v<n)):=by
 unfold yG Qz ige
 by_cases h:0≤v
 ·have:decide (v≥0)=true:=by simpa using h
  rw[Ù this]; simp[h]
 ·have:decide (v≥0)=false:=by simpa using h
  rw[Ì this]; simp[h]
def kZ (h:ja L N):pI ((N:Int),L)=some (0,-1):=by
 have h1:=h.n1;have h2:=h.n60;have h3:=h.len;unfold pI Kw
 try dsimp only
 rw[Ì (by simp[ilt]; omega),Ì (by simp[igt]; omega),Ì (by rw[Ò]; simp[igt]; omega)];refine eh (jt L (fun _=>false) (fun i=>some (1,i)) (some (0,-1)) (fun i l hi hl kn=>?_) (fun kn=>?_)) ?_
 ·try dsimp only
  unfold qW;have hm:=List.mem_of_getElem? hl;have a:=h.inr l hm;have b:=h.noloop l hm;have c:=h.most l hm
  have e1:(decide (0≤l.1)&&decide (l.1<(N:Int)))=true:=by simp[a.1.1,a.1.2]
  have e2:(decide (0≤l.2.1)&&decide (l.2.1<(N:Int)))=true:=by simp[a.2.1,a.2.2]
  rw[Ñ hi,È hl,Wi,À,e1,Wi,À,e2];simp only[dA,é,cS,if_false];rw[Ì (by simp[ieq,b]),Ì (by simp[ilt]; omega),Ì (by simp[igt]; omega),Ë hi (by omega)]
 ·try dsimp only
  unfold qW;rw[ß]
 ·rw[dD.2 (by simp)]
def uZ {ρ:Type} {x:List Int} {v:Int} (h0:0≤v) (h:v.toNat<x.length) (f:Int→Option ρ):Ċ x v f=f (gv x v):=by
 obtain⟨i,rfl⟩:=Int.eq_ofNat_of_zero_le h0;exact È (YS h) f
end
section
variable {b:Ğ}
def vq (b:Ğ) (g:õ):(å b g).Pairwise (·<·):=VX _
def U5 (h:Ν b) {g:õ} (hg:g∈b.2.1):∃t,å b g=g.2.1::t:=by
 have h1:=vq b g;have h2:=rE (b:=b) g;have h3:∀d∈å b g,g.2.1≤d:=fun d hd=>(h.day hg hd).1
 cases hd:å b g with
 |nil=>rw[hd] at h2; cases h2
 |cons a t =>
  rw[hd] at h1 h2 h3;rw[dk] at h1;rcases cH.1 h2 with e|e
  ·exact⟨t,by rw[e]⟩
  ·have:=h1.1 _ e;have:=h3 a (by simp);omega
def off (b:Ğ) (i:Nat):Nat:=((b.2.1.take i).flatMap fun g=>(å b g).map fun d=>((g.1,d):Int×Int)).length
def AZ {i:Nat} {g:õ} (hg:b.2.1[i]?=some g):Ú b=((b.2.1.take i).flatMap fun g=>(å b g).map fun d=>((g.1,d):Int×Int))++(((å b g).map fun d=>((g.1,d):Int×Int))++((b.2.1.drop (i+1)).flatMap fun g=>(å b g).map fun d=>((g.1,d):Int×Int))):=by
 obtain⟨hi,rfl⟩:=cE.1 hg
 have h1:b.2.1=b.2.1.take i++(b.2.1[i]::b.2.1.drop (i+1)):=by
  rw[←dv hi,dM]
 unfold Ú
 conv=>lhs; rw[h1]
 rw[ft,dw]
def PT (h:Ν b) {i:Nat} {g:õ} (hg:b.2.1[i]?=some g) {k:Nat} {d:Int} (hk:(å b g)[k]?=some d):jj (Ú b) g.1 d=some (off b i+k):=by
 obtain⟨hi,hgi⟩:=List.getElem?_eq_some_iff.1 hg;obtain⟨hkl,hkd⟩:=List.getElem?_eq_some_iff.1 hk;unfold jj;rw[AZ hg,List.findIdx?_append,List.findIdx?_append]
 have h1:List.findIdx? (fun n:Int×Int=>decide (g.1=n.1)&&decide (d=n.2)) ((b.2.1.take i).flatMap fun g=>(å b g).map fun d=>((g.1,d):Int×Int))=none:=by
  rw[dD];intro x hx;obtain⟨g',hg',hx⟩:=dl.1 hx;obtain⟨d',_,rfl⟩:=dc.1 hx;obtain⟨j,hj,rfl⟩:=cO.1 hg';rw[cW] at hj;rw[eP];have:=(dh.1 h.ids) j i (by omega) hi (by omega);rw[hgi] at this;simp only[f6,decide_eq_false_iff_not];exact .inl (by omega)
 have h2:List.findIdx? (fun n:Int×Int=>decide (g.1=n.1)&&decide (d=n.2)) ((å b g).map fun d=>((g.1,d):Int×Int))=some k:=by
  rw[dK];refine⟨by simpa using hkl,by simp[hkd],fun j hj=>?_⟩;have:=(dh.1 (vq b g)) j k (by omega) hkl hj;rw[hkd] at this;simp only[List.getElem_map,cD,decide_eq_true_eq,not_and];intro _;omega
 rw[h1,h2];simp only[Option.map_some,Option.some_or,Option.none_or];unfold off;congr 1;omega
def aeG {i:Nat} {g:õ} (hg:b.2.1[i]?=some g) {k:Nat} {d:Int} (hk:(å b g)[k]?=some d):(Ú b)[off b i+k]?=some (g.1,d):=by
 obtain⟨hkl,hkd⟩:=List.getElem?_eq_some_iff.1 hk;rw[AZ hg,List.getElem?_append_right (by unfold off; omega),List.getElem?_append_left (by unfold off; simp; omega)];unfold off;simp[hk]
def afC (h:Ν b) {i:Nat} {g:õ} (hg:b.2.1[i]?=some g):atP (Ú b) [g.1] g.2.1=(off b i:Int)+1:=by
 obtain⟨t,ht⟩:=U5 h (List.mem_of_getElem? hg);have:=PT h hg (k:=0) (d:=g.2.1) (by rw[ht]; rfl);unfold atP;simp only[this];rfl
def agN (h:Ν b) {i:Nat} {g:õ} (hg:b.2.1[i]?=some g):off b i+(å b g).length≤(Ú b).length:=by
 rw[AZ hg];unfold off;simp only[List.length_append,List.length_map];omega
def aeE {i:Nat} {g:õ} (hg:b.2.1[i]?=some g):off b (i+1)=off b i+(å b g).length:=by
 unfold off;rw[take_succ hg,List.flatMap_append];simp
def Tu (h:Ν b) {c:Cmp} (hc:c∈b.2.2.2.2.1) {x:Int} (hx:(x∈c.2.2.1∧x∉c.2.2.2.1)∨(x∈c.2.2.2.1∧x∉c.2.2.1)):∃j,jj (Ú b) x c.2.1=some j:=by
 have hm:x∈c.2.2.1++c.2.2.2.1:=by rw[cG]; exact hx.imp (·.1) (·.1)
 obtain⟨⟨g,hg,_⟩,_⟩:=h.pile hc hm;obtain⟨hgm,hgx⟩:=gO hg;obtain⟨i,hi,hgi⟩:=cO.1 hgm
 have hd:c.2.1∈å b g:=χ.2 (.inr (.inl ⟨c,hc,by
  rw[hgx];rcases hx with⟨h1,h2⟩|⟨h1,h2⟩
  ·have e1:c.2.2.1.contains x=true:=by simpa using h1
   have e2:c.2.2.2.1.contains x=false:=by simpa using h2
   rw[e1,e2]; simp
  ·have e1:c.2.2.2.1.contains x=true:=by simpa using h1
   have e2:c.2.2.1.contains x=false:=by simpa using h2
   rw[e1,e2]; simp,rfl⟩))
 obtain⟨k,hk,hkd⟩:=cO.1 hd;have:=PT h (g:=g) (i:=i) (by rw[cA hi,hgi]) (k:=k) (d:=c.2.1) (by rw[cA hk,hkd]);rw[hgx] at this;exact⟨_,this⟩
inductive aaV (b:Ğ) (p:List Int) (d:Int) (n:Int):Prop
 |none:p=[]→n=0→aaV b p d n
 |one (x:Int) (j:Nat):p=[x]→jj (Ú b) x d=some j→n=(j:Int)+1→aaV b p d n
def ac7 (h:Ν b) {c:Cmp} (hc:c∈b.2.2.2.2.1):aaV b (ý c.2.2.1 c.2.2.2.1) c.2.1 (cx b c):=by
 have hl:=(h.lefts hc).1
 cases hp:ý c.2.2.1 c.2.2.2.1 with
 |nil=>exact .none rfl (by unfold cx atP; rw[hp])
 |cons x t =>
  rw[hp] at hl
  have:t=[]:=by cases t with|nil=>rfl|cons=>simp at hl
  subst this;obtain⟨j,hj⟩:=Tu h hc (x:=x) (.inl (ng.1 (by rw[hp]; simp)));exact .one x j rfl hj (by unfold cx atP; rw[hp]; simp only[hj])
def Xw (h:Ν b) {c:Cmp} (hc:c∈b.2.2.2.2.1):aaV b (ý c.2.2.2.1 c.2.2.1) c.2.1 (cy b c):=by
 have hl:=(h.lefts hc).2.1
 cases hp:ý c.2.2.2.1 c.2.2.1 with
 |nil=>exact .none rfl (by unfold cy atP; rw[hp])
 |cons x t =>
  rw[hp] at hl
  have:t=[]:=by cases t with|nil=>rfl|cons=>simp at hl
  subst this;obtain⟨j,hj⟩:=Tu h hc (x:=x) (.inr (ng.1 (by rw[hp]; simp)));exact .one x j rfl hj (by unfold cy atP; rw[hp]; simp only[hj])
def aaV.rng {p:List Int} {d n:Int} (h:aaV b p d n):0≤n∧n<((Ú b).length+1:Nat):=by
 rcases h with⟨_,h⟩|⟨x,j,_,h1,h2⟩
 ·omega
 ·have:=(jV h1).1;omega
def afh (h:Ν b) {c:Cmp} (hc:c∈b.2.2.2.2.1):cx b c≠cy b c:=by
 have hl:=(h.lefts hc).2.2;rcases ac7 h hc with⟨h1,h2⟩|⟨x,j,h1,h2,h3⟩
 ·rcases Xw h hc with⟨g1,g2⟩|⟨y,k,g1,g2,g3⟩
  ·rw[h1,g1] at hl; simp at hl
  ·omega
 ·rcases Xw h hc with⟨g1,g2⟩|⟨y,k,g1,g2,g3⟩
  ·omega
  ·intro e
   have:j=k:=by omega
   subst this;have e1:=(jV h2).2;have e2:=(jV g2).2;rw[e1] at e2;simp only[Option.some.injEq,Prod.mk.injEq] at e2
   have m1:x∈ý c.2.2.1 c.2.2.2.1:=by rw[h1]; simp
   have m2:y∈ý c.2.2.2.1 c.2.2.1:=by rw[g1]; simp
   rw[e2.1] at m1;exact(ng.1 m1).2 (ng.1 m2).1
def acq (h:Ν b):(iN b).length=2*(Ú b).length+2*b.2.2.2.2.1.length:=by
 have h1:∀l:List õ,(∀g∈l,g∈b.2.1)→(l.flatMap (Ň b)).length=2*(l.flatMap fun g=>(å b g).map fun d=>((g.1,d):Int×Int)).length:=by
  intro l
  induction l with
  |nil=>intro _; rfl
  |cons g t ih =>
   intro hm;have:=ih fun g hg=>hm g (by simp[hg]);have hp:=List.length_pos_of_mem (rE (b:=b) g);simp only[List.flatMap_cons,List.length_append,List.length_map,this];unfold Ň;rw[List.length_append,oT _ _ (fun _=>rfl)];simp only[List.length_cons,List.length_nil];omega
 have h2:∀l:List Cmp,(l.flatMap (iR b)).length=2*l.length:=by
  intro l
  induction l with
  |nil=>rfl
  |cons c t ih =>
   simp only[dw,cF,ih,iR,cP,dR];omega
 unfold iN;rw[List.length_append,h1 _ fun _ h=>h,h2];rfl
def ĵ (h:Ν b) {i:Nat} {g:õ} (hg:b.2.1[i]?=some g) {l:Lk}:l∈Ň b g ↔
 l=(0,(off b i:Int)+1,g.2.2.1+g.2.2.2.1.2)∨l=((off b i:Int)+1,0,-(g.2.2.1+g.2.2.2.1.1)) ∨
 ∃(k:Nat) (d e:Int),(å b g)[k]?=some d∧(å b g)[k+1]?=some e∧(l=((off b i:Int)+k+1,(off b i:Int)+k+2,0)∨l=((off b i:Int)+k+2,(off b i:Int)+k+1,kH b g d e)):=by
 unfold Ň;rw[afC h hg];simp only[List.mem_append,List.mem_cons,List.not_mem_nil,or_false,List.mem_flatMap,List.mem_range];constructor
 ·rintro((h1|h1)|⟨k,hk,h1⟩)
  ·exact .inl h1
  ·exact .inr (.inl h1)
  ·refine .inr (.inr ⟨k,(å b g)[k],(å b g)[k+1],cA (by omega),cA (by omega),?_⟩);rw[cA (show k<(å b g).length by omega),cA (show k+1<(å b g).length by omega)] at h1;simp only[gG] at h1
   have e1:(off b i:Int)+1+k=(off b i:Int)+k+1:=by omega
   have e2:(off b i:Int)+k+1+1=(off b i:Int)+k+2:=by omega
   rw[e1,e2] at h1;exact h1
 ·rintro(h1|h1|⟨k,d,e,hd,he,h1⟩)
  ·exact .inl (.inl h1)
  ·exact .inl (.inr h1)
  ·obtain⟨h2,rfl⟩:=cE.1 hd;obtain⟨h3,rfl⟩:=cE.1 he;refine .inr ⟨k,by omega,?_⟩;rw[hd,he];simp only[gG]
   have e1:(off b i:Int)+1+k=(off b i:Int)+k+1:=by omega
   have e2:(off b i:Int)+k+1+1=(off b i:Int)+k+2:=by omega
   rw[e1,e2];exact h1
def oL {l:Lk}:l∈iN b↔(∃(i:Nat) (g:õ),b.2.1[i]?=some g∧l∈Ň b g)∨∃c∈b.2.2.2.2.1,l=(cy b c,cx b c,(wn b c).2)∨l=(cx b c,cy b c,-(wn b c).1):=by
 unfold iN;simp only[List.mem_append,List.mem_flatMap,iR,List.mem_cons,List.not_mem_nil,or_false];constructor
 ·rintro(⟨g,hg,h⟩|h)
  ·obtain⟨i,hi,rfl⟩:=cO.1 hg;exact .inl ⟨i,_,cA hi,h⟩
  ·exact .inr h
 ·rintro(⟨i,g,hg,h⟩|h)
  ·exact .inl ⟨g,cI hg,h⟩
  ·exact .inr h
def Ν.sys (h:Ν b):ja (iN b) ((Ú b).length+1):=by
 have hN:=h.nodes;have hL:=h.links
 have key:∀l∈iN b,((0≤l.1∧l.1<((Ú b).length+1:Nat))∧(0≤l.2.1∧l.2.1<((Ú b).length+1:Nat)))∧l.1≠l.2.1∧(-4503599627370496≤l.2.2∧l.2.2≤4503599627370496):=by
  intro l hl;rcases oL.1 hl with⟨i,g,hg,hl⟩|⟨c,hc,hl⟩
  ·have hgm:=cI hg;have hr:=h.gaugeR hgm;have ho:=agN h hg;have hp:=List.length_pos_of_mem (rE (b:=b) g);have r1:=hr.2.2.2.2.2.1;have r2:=hr.2.2.2.2.2.2.1;rcases(ĵ h hg).1 hl with rfl|rfl|⟨k,d,e,hd,he,h1⟩
   ·dsimp only; omega
   ·dsimp only; omega
   ·obtain⟨h2,_⟩:=cE.1 he;have d1:=h.day hgm (cI hd);have lb:=uV h hgm (t:=e) d1.2.1;rcases h1 with rfl|rfl
    ·dsimp only; omega
    ·dsimp only; omega
  ·have a:=(ac7 h hc).rng;have b':=(Xw h hc).rng;have ne:=afh h hc;have sb:=I0 h hc;rcases hl with rfl|rfl
   ·dsimp only; omega
   ·dsimp only; omega
 exact⟨by omega,by omega,by rw[acq h]; omega,fun l hl=>(key l hl).1,fun l hl=>(key l hl).2.1,fun l hl=>(key l hl).2.2⟩
end
def VM (b:Ğ) (id day:Int):Bool:=b.2.2.1.any fun u=>u.1==id&&u.2==day
def ac4 (b:Ğ) (g:õ) (d:Int):Int:=match lh b g.1 d with|some l=>l.2.2|none=>if VM b g.1 d then g.2.2.2.2.2 else 0
def ack (l:Mi) (id:Int) {f t:Int} (hft:f≤t):(if l.1=id∧0<ĕ l f (t+1) then ĕ l f (t+1)*l.2.2 else 0)=(if l.1=id∧0<ĕ l f t then ĕ l f t*l.2.2 else 0)+(if l.1=id∧l.2.1.1≤t∧t≤l.2.1.2 then l.2.2 else 0):=by
 by_cases hid:l.1=id
 ·by_cases h1:l.2.1.1≤t∧t≤l.2.1.2
  ·have e:ĕ l f (t+1)=ĕ l f t+1:=by unfold ĕ; omega
   have p:0≤ĕ l f t:=by unfold ĕ; omega
   rw[e,if_pos ⟨hid,by omega⟩,if_pos (show l.1=id∧l.2.1.1≤t∧t≤l.2.1.2 from⟨hid,h1⟩),fY,gj]
   by_cases hp:0<ĕ l f t
   ·rw[if_pos ⟨hid,hp⟩]
   ·rw[if_neg (fun h=>hp h.2)]
    have:ĕ l f t=0:=by omega
    rw[this];omega
  ·rw[if_neg (show ¬(l.1=id∧l.2.1.1≤t∧t≤l.2.1.2) from fun h=>h1 h.2),gA]
   by_cases hlo:l.2.1.1≤t
   ·have e:ĕ l f (t+1)=ĕ l f t:=by unfold ĕ; omega
    rw[e]
   ·have p1:¬0<ĕ l f (t+1):=by unfold ĕ; omega
    have p2:¬0<ĕ l f t:=by unfold ĕ; omega
    rw[if_neg (fun h=>p1 h.2),if_neg (fun h=>p2 h.2)]
 ·rw[if_neg (fun h=>hid h.1),if_neg (fun h=>hid h.1),if_neg (fun h=>hid h.1)];rfl
def OV (id:Int) {f t:Int} (hft:f≤t):∀{x:List Mi},x.Pairwise (fun a c=>¬(a.1=c.1∧a.2.1.1≤c.2.1.2∧c.2.1.1≤a.2.1.2)) →
 ĭ id f (t+1) x=ĭ id f t x+(match x.find? (fun l=>l.1==id&&inP t l.2.1.1 l.2.1.2) with|some l=>l.2.2|none=>0)
 |[],_=>rfl
 |l::r,hp=>by
  rw[dk] at hp;have ih:=OV id hft hp.2;simp only[ĭ];rw[ih,ack l id hft,fi]
  by_cases hm:l.1=id∧l.2.1.1≤t∧t≤l.2.1.2
  ·have e:(l.1==id&&inP t l.2.1.1 l.2.1.2)=true:=by simp[inP,hm.1,hm.2.1,hm.2.2]
   have hn:r.find? (fun l=>l.1==id&&inP t l.2.1.1 l.2.1.2)=none:=by
    rw[dQ];intro c hc hcm;simp only[inP,cD,beq_iff_eq,decide_eq_true_eq] at hcm;exact hp.1 c hc ⟨by rw[hm.1,hcm.1],by omega,by omega⟩
   rw[if_pos hm,e,hn];simp only;omega
  ·have e:(l.1==id&&inP t l.2.1.1 l.2.1.2)=false:=by
    rw[dW];intro h;simp only[inP,cD,beq_iff_eq,decide_eq_true_eq] at h;exact hm h
   rw[if_neg hm,e];simp only;omega
section
variable {b:Ğ}
def Ν.apart (h:Ν b):b.2.2.2.1.Pairwise (fun a c=>¬(a.1=c.1∧a.2.1.1≤c.2.1.2∧c.2.1.1≤a.2.1.2)):=by
 rw[List.pairwise_iff_getElem];intro i j hi hj hij ⟨h1,h2,h3⟩;have hz:=h.loans j _ (List.getElem?_eq_getElem hj);unfold Rp at hz
 have hany:(b.2.2.2.1.take j).any (fun x=>x.1==b.2.2.2.1[j].1&&(decide (x.2.1.1≤b.2.2.2.1[j].2.1.2)&&decide (b.2.2.2.1[j].2.1.1≤x.2.1.2)))=true:=by
  rw[dj];exact⟨b.2.2.2.1[i],cO.2 ⟨i,by rw[cW]; omega,by rw[eP]⟩,by simp[h1,h2,h3]⟩
 rw[hany] at hz
 (repeat' split at hz)<;>first|omega|simp_all
def Ν.notUsed (h:Ν b) {id d:Int} {l:Mi} (hl:lh b id d=some l):VM b id d=false:=by
 have hm:=fc hl;have hp:=fF hl;simp only[inP,cD,beq_iff_eq,decide_eq_true_eq] at hp;obtain⟨j,hj,rfl⟩:=cO.1 hm;have hz:=h.loans j _ (cA hj);rw[dW];intro hu;obtain⟨u,hu,hue⟩:=dj.1 hu;simp only[cD,beq_iff_eq] at hue
 have hany:b.2.2.1.any (fun u=>u.1==b.2.2.2.1[j].1&&inP u.2 b.2.2.2.1[j].2.1.1 b.2.2.2.1[j].2.1.2)=true:=by
  rw[dj];exact⟨u,hu,by simp only[inP,cD,beq_iff_eq,decide_eq_true_eq]; exact⟨by rw[hue.1,hp.1],by omega,by omega⟩⟩
 unfold Rp at hz;rw[hany] at hz
 (repeat' split at hz)<;>first|omega|simp_all
def Sv {id f t:Int} (hft:f≤t):VD (ip b id f (t+1))=VD (ip b id f t)++if VM b id t then[t] else[]:=by
 have hm:∀t x,x∈ip b id f t↔VM b id x=true∧f≤x∧x<t:=by
  intro t x;unfold ip VM;simp only[List.mem_map,List.mem_filter,List.any_eq_true,inP,Bool.and_eq_true,beq_iff_eq,decide_eq_true_eq];constructor
  ·rintro⟨u,⟨h1,h2,h3,h4⟩,rfl⟩;exact⟨⟨u,h1,h2,rfl⟩,h3,by omega⟩
  ·rintro⟨⟨u,h1,h2,rfl⟩,h3,h4⟩;exact⟨u,⟨h1,h2,h3,by omega⟩,rfl⟩
 refine ahq (VX _) ?_ fun x=>?_
 ·rw[fK]
  refine⟨VX _,by split<;>simp,fun a ha c hc=>?_⟩
  rw[Cc,hm] at ha
  split at hc
  ·rw[cM] at hc; omega
  ·cases hc
 ·rw[Cc,hm,cG,Cc,hm]
  by_cases hu:VM b id t=true
  ·rw[if_pos hu,cM];constructor
   ·rintro⟨h1,h2,h3⟩
    by_cases he:x=t
    ·exact .inr he
    ·exact .inl ⟨h1,h2,by omega⟩
   ·rintro(⟨h1,h2,h3⟩|rfl)
    ·exact⟨h1,h2,by omega⟩
    ·exact⟨hu,hft,by omega⟩
  ·rw[if_neg hu];constructor
   ·rintro⟨h1,h2,h3⟩;refine .inl ⟨h1,h2,?_⟩
    by_cases he:x=t
    ·rw[he] at h1; exact absurd h1 hu
    ·omega
   ·rintro(⟨h1,h2,h3⟩|h)
    ·exact⟨h1,h2,by omega⟩
    ·cases h
def UI (h:Ν b) (g:õ) {f t:Int} (hft:f≤t):kH b g f (t+1)=kH b g f t+ac4 b g t:=by
 unfold kH ac4;rw[OV g.1 hft h.apart,Sv hft];show ĭ g.1 f t b.2.2.2.1+(match lh b g.1 t with|some l=>l.2.2|none=>0)+_=_
 cases ha:lh b g.1 t with
 |some l =>
  rw[h.notUsed ha];simp only[cS,if_false,cY];omega
 |none =>
  simp only
  cases VM b g.1 t with
  |true=>simp only[if_true,cF,dC,Int.natCast_add,fY]; omega
  |false=>simp only[cS,if_false,cY]; omega
def UJ (g:õ) {f t:Int} (hft:t≤f):kH b g f t=0:=by
 unfold kH
 have h1:∀x:List Mi,ĭ g.1 f t x=0:=by
  intro x
  induction x with
  |nil=>rfl
  |cons l r ih =>
   simp only[ĭ];rw[ih,if_neg (by unfold ĕ; omega)];rfl
 have h2:ip b g.1 f t=[]:=by
  unfold ip
  rw[gF.2 fun u hu hc=>by
   simp only[inP,cD,beq_iff_eq,decide_eq_true_eq] at hc
   omega]
  rfl
 rw[h1,h2];have h3:VD ([]:List Int)=[]:=rfl;rw[h3];simp
end
def adM {ρ:Type}:@uD ρ=@ξ ρ:=rfl
def adL {ρ:Type}:@uC ρ=@ŏ ρ:=rfl
def adK {ρ:Type}:@uB ρ=@Ħ ρ:=rfl
def UU {ρ:Type} {N:Nat} (hN:N≤1000) (x:Option ρ):è ((ile (0:Int) (N:Int))&&(î N)) x=x:=by
 have:=D0 hN x
 rwa [cQ] at this
section
variable {L:List Lk} {N:Nat} {M:Int}
def abl {s:Int} (hs:0≤s∧s<N):(List.replicate N Ŗ).set s.toNat 0=tS (ad9 s) N:=by
 refine YT (by simp[ċ]) fun v h0 h1=>?_
 have hv:v<N:=by simpa using h1
 rw[iu _ h0 hv,rt hs.1 h0 (by simp; omega)];unfold ad9
 by_cases h:v=s
 ·simp[h]
 ·simp only[h,if_false,beq_iff_eq];unfold gv;rw[List.getElem?_replicate]
  have:v.toNat<N:=by omega
  simp[this]
def Vn (hL:g9 L N M) (h1:1≤N) (hN:N≤200) (ho:kj L N=true) {s:Int} (hs:0≤s∧s<N):tE ((N:Int),L) [] s=some (ya L N s):=by
 obtain⟨p,hp⟩:=(ki hL hN).1 ho;unfold tE FF;rw[adM,adL,adK];dsimp only;rw[D0 (by omega),Int.toNat_natCast];refine ģ (List.replicate N (0:Int)) (fun i=>List.replicate i Ŗ++List.replicate (N-i) 0) _ (by simp) (fun i a hi ha kn=>?_) (fun kn=>?_)
 ·dsimp only;unfold ol
  have hiN:i<N:=by simpa using hi
  have hl:i<(List.replicate i Ŗ++List.replicate (N-i) (0:Int)).length:=by simp; omega
  rw[Ñ hi,š hl,Ė (cA hl),Ë hiN (by omega),cQ];congr 2;rw[f7 _ _ (by simp)]
  have:N-i=(N-(i+1))+1:=by omega
  rw[this,eY,gJ,fR,List.set_cons_zero,List.replicate_succ'];simp
 ·try dsimp only
  unfold ol;rw[ß];dsimp only
  have e0:List.replicate (List.replicate N (0:Int)).length Ŗ++List.replicate (N-(List.replicate N (0:Int)).length) 0=List.replicate N Ŗ:=by simp
  rw[e0]
  have hlen:s.toNat<(List.replicate N Ŗ).length:=by simp; omega
  rw[show ñ (List.replicate N Ŗ)=((N:Nat):Int) by simp[ñ],ŵ hs.1 hs.2,jO hlen,UU (by omega),UU (by omega),abl hs];refine eh (YO hL _) ?_
  have hS:∀v,ad9 s v=true→0≤v∧v<N:=fun v h=>by simp[ad9] at h; subst h; exact hs
  refine abo (ċ _ _) (by omega) _ fun w q hw hq hr hwq hqs=>?_;have hs0:=N8 hL h1 hS hw hq hr hwq hqs;refine SH hL (aeJ hL hN) hp hS _ (fun x w t q hx hd=>?_) hs0
  have:x=ya L N s:=by
   refine YT (by rw[hx]; unfold ya; rw[ř,ċ]) fun v a b=>?_;exact hd.uniq (BT hL hN hp hs) a (by omega)
  dsimp only;rw[this]
def afF (h:ja L N) {ns:List Int} (hn:∀n∈ns,0≤n∧n<N) (hl:ns.length≤1000):Ej ((N:Int),L) ns=some (if kj L N then 0 else 9):=by
 have h2:=h.n60;unfold Ej Kl;rw[kZ h,À];dsimp only;rw[Ì (by rfl)];refine Eq.trans (jt ns (fun _=>false) (fun _=>some 1) (some (if kj L N then 0 else 9)) (fun i n hi hm kn=>?_) (fun kn=>?_)) ?_
 ·try dsimp only
  unfold qS;have a:=hn n (List.mem_of_getElem? hm)
  have e:(decide (0≤n)&&decide (n<(N:Int)))=true:=by simp[a.1,a.2]
  rw[Ñ hi,È hm,Wi,À,e,Ë hi (by omega)];simp
 ·try dsimp only
  unfold qS;rw[ß,tT h.links h.n1 (by omega),À]
  cases kj L N<;>rfl
 ·rw[dD.2 (by simp)]
end
def adN:Ğ:=((0,0),[],[],[],[],[])
structure In (b:Ğ):Prop where
 size:vL b
 num:∀g∈b.2.1,I64 g.2.2.2.2.1.1
def Sh (b:Ğ):Sys×List (Int×Int)×Int:=if ű b≠0 then((0,[]),[],ű b) else((((Ú b).length:Int)+1,iN b),Pw b,0)
def Vw {b:Ğ} (h:In b):il b=some (Sh b):=by
 unfold il FW Sh;rw[yU h.size h.num,À]
 by_cases hc:ű b=0
 ·rw[Ì (by simp[ine,hc]),aeL ((ψ b).1 hc),À,if_neg (show ¬(ű b≠0) from fun h=>h hc)]
 ·rw[Ù (by simp[ine,hc]),if_pos hc]
def Mb (b:Ğ) (g:Int) (ds:List Int):Int:=if ű b≠0 then ű b else if ds.any (fun d=>!LQ d) then 1 else if (oW (k:=tI) (v:=Ô) g (iz b)).isNone then 5 else 0
def adU {b:Ğ} (h:In b) (g:Int) {ds:List Int} (hd:ds.length≤1000):El b g ds=some (Mb b g ds):=by
 unfold El K4 Mb;rw[yU h.size h.num,À]
 by_cases hc:ű b=0
 ·rw[Ì (by simp[ine,hc]),if_neg (show ¬(ű b≠0) from fun h=>h hc)]
  have last:(Ã (ĸ b) fun r9=>Iw (k:=tI) (v:=Ô) g r9 (fun y10=>some (0:Int)) (some (5:Int)))=some (if (oW (k:=tI) (v:=Ô) g (iz b)).isNone then 5 else 0):=by
   rw[EO h.size.gauges,À];unfold Iw
   cases oW (k:=tI) (v:=Ô) g (iz b)<;>rfl
  refine eh (Š ds (fun d=>!LQ d) (fun z5=>ifb (ige z5 (0:Int)) (some (1:Int)) (Ã (ĸ b) fun r6=>Iw (k:=tI) (v:=Ô) g r6 (fun y7=>some (0:Int)) (some (5:Int)))) (some 1) (some (if (oW (k:=tI) (v:=Ô) g (iz b)).isNone then 5 else 0)) (fun j=>?_) (fun i d hi hdi kn=>?_) (fun kn=>?_)) ?_
  ·rw[Ù (by simp[ige])]
  ·try dsimp only
   unfold rk;rw[Ñ hi,È hdi,Iy,À,Ë hi (by omega),Č]
  ·try dsimp only
   unfold rk;rw[ß,last]
  ·cases ds.any (fun d=>!LQ d)<;>rfl
 ·rw[Ù (by simp[ine,hc]),if_pos hc]
section
variable {b:Ğ}
def agO:off b b.2.1.length=(Ú b).length:=by unfold off Ú; rw[List.take_length]
def aeF:∀n,n≤b.2.1.length→∀j,j<off b n→∃(i:Nat) (g:õ) (k:Nat),b.2.1[i]?=some g∧k<(å b g).length∧j=off b i+k:=by
 intro n
 induction n with
 |zero=>intro _ j hj; simp[off] at hj
 |succ n ih =>
  intro hn j hj;have hg:b.2.1[n]?=some b.2.1[n]:=cA (by omega);rw[aeE hg] at hj
  by_cases h:j<off b n
  ·exact ih (by omega) j h
  ·exact⟨n,_,j-off b n,hg,by omega,by omega⟩
def Ox {v:Int} (h0:1≤v) (h1:v<((Ú b).length+1:Nat)):∃(i:Nat) (g:õ) (k:Nat),b.2.1[i]?=some g∧k<(å b g).length∧v=(off b i:Int)+k+1:=by
 obtain⟨i,g,k,h2,h3,h4⟩:=aeF (b:=b) b.2.1.length (cB _) (v-1).toNat (by rw[agO]; omega);exact⟨i,g,k,h2,h3,by omega⟩
def GL (b:Ğ) (L:List Lk):Prop:=∀(i:Nat) (g:õ),b.2.1[i]?=some g→∀l∈Ň b g,l∈L
def YV:GL b (iN b):=fun i g hg l hl=>oL.2 (.inl ⟨i,g,hg,hl⟩)
def agr {L:List Lk} (h:Ν b) (hL:GL b L) {v:Int} (h0:0≤v) (h1:v<((Ú b).length+1:Nat)):∃vs d,Wl L (fun u=>u=0) vs v d∧d≤4503599627370496:=by
 by_cases hv:v=0
 ·exact⟨[],0,.nil hv,by omega⟩
 obtain⟨i,g,k,hg,hk,rfl⟩:=Ox (by omega) h1;have hr:=h.gaugeR (cI hg);have r1:=hr.2.2.2.2.2.1;have r2:=hr.2.2.2.2.2.2.1
 have key:∀k:Nat,k<(å b g).length→∃vs,Wl L (fun u=>u=0) vs ((off b i:Int)+k+1) (g.2.2.1+g.2.2.2.1.2):=by
  intro k
  induction k with
  |zero =>
   intro _;have hw:Wl L (fun u=>u=0) [0] ((off b i:Int)+1) (0+(g.2.2.1+g.2.2.2.1.2)):=Wl.step (.nil rfl) (hL i g hg _ ((ĵ h hg).2 (.inl rfl)));rw[Int.zero_add] at hw;exact⟨[0],by simpa using hw⟩
  |succ k ih =>
   intro hk;obtain⟨vs,hw⟩:=ih (by omega);have hw':=Wl.step hw (hL i g hg _ ((ĵ h hg).2 (.inr (.inr ⟨k,_,_,cA (show k<_ by omega),cA hk,.inl rfl⟩))));rw[gA] at hw'
   have e:(off b i:Int)+((k+1:Nat):Int)+1=(off b i:Int)+k+2:=by push_cast; omega
   exact⟨_,by rw[e]; exact hw'⟩
 obtain⟨vs,hw⟩:=key k hk;exact⟨vs,_,hw,by omega⟩
def abh {L:List Lk} (h:Ν b) (hL:GL b L) {v:Int} (h0:0≤v) (h1:v<((Ú b).length+1:Nat)):∃vs d,Wl L (fun u=>u=v) vs 0 d∧d≤4503599627370496:=by
 by_cases hv:v=0
 ·exact⟨[],0,.nil hv.symm,by omega⟩
 obtain⟨i,g,k,hg,hk,rfl⟩:=Ox (by omega) h1;have hgm:=cI hg;have hr:=h.gaugeR hgm;have r1:=hr.2.2.2.2.2.1;have r2:=hr.2.2.2.2.2.2.1;have hd:=RM h hgm
 have key:∀m:Nat,m≤k→∃vs d,Wl L (fun u=>u=(off b i:Int)+k+1) vs ((off b i:Int)+(k-m:Nat)+1) d∧d≤m*(12*(20001*1048576)+40*1048576):=by
  intro m
  induction m with
  |zero=>intro _; exact⟨[],0,.nil (by simp),by simp⟩
  |succ m ih =>
   intro hm;obtain⟨vs,d,hw,hd⟩:=ih (by omega)
   have e1:((k-m:Nat):Int)=((k-(m+1):Nat):Int)+1:=by omega
   have hl:(((off b i:Int)+(k-(m+1):Nat)+2,(off b i:Int)+(k-(m+1):Nat)+1,kH b g ((å b g)[k-(m+1)]'(by omega)) ((å b g)[k-(m+1)+1]'(by omega))):Lk)∈L :=
    hL i g hg _ ((ĵ h hg).2 (.inr (.inr ⟨k-(m+1),_,_,cA (by omega),cA (by omega),.inr rfl⟩)))
   have hb:=uV h hgm (f:=(å b g)[k-(m+1)]'(by omega)) (t:=(å b g)[k-(m+1)+1]'(by omega)) (h.day hgm (eT _)).2.1
   have e2:(off b i:Int)+(k-m:Nat)+1=(off b i:Int)+(k-(m+1):Nat)+2:=by omega
   rw[e2] at hw;exact⟨_,_,.step hw hl,by push_cast; omega⟩
 obtain⟨vs,d,hw,hdb⟩:=key k (cB _)
 have e:(off b i:Int)+(k-k:Nat)+1=(off b i:Int)+1:=by omega
 rw[e] at hw;have hw':=Wl.step hw (hL i g hg _ ((ĵ h hg).2 (.inr (.inl rfl))));exact⟨_,_,hw',by omega⟩
end
structure XO (L:List Lk) (N:Nat):Prop where
 to:∀v:Int,0≤v→v<N→∃vs d,Wl L (fun u=>u=0) vs v d∧d≤4503599627370496
 from':∀v:Int,0≤v→v<N→∃vs d,Wl L (fun u=>u=v) vs 0 d∧d≤4503599627370496
def Ν.tied {b:Ğ} (h:Ν b):XO (iN b) ((Ú b).length+1):=⟨fun v h0 h1=>agr h YV h0 h1,fun v h0 h1=>abh h YV h0 h1⟩
section
variable {L:List Lk} {N:Nat}
def afX {L:List Lk} {s:Int} {vs:List Int} {v d:Int}:Wl L (fun v=>ad9 s v=true) vs v d↔Wl L (fun u=>u=s) vs v d :=
 ⟨fun h=>h.mono fun u hu=>by simpa[ad9] using hu,fun h=>h.mono fun u hu=>by simpa[ad9] using hu⟩
def L8 (s:Int):(ya L N s).length=N:=by unfold ya; rw[ř,ċ]
end
def GA (b:Ğ) (id day:Int):Int:=match þ b id with|some g=>if day<g.2.1 then 4 else 0|none=>5
def VV {b:Ğ} (hi:b.2.1.Pairwise fun a b=>a.1<b.1) (id day:Int):GA b id day=mD (iz b) id day:=by
 unfold GA mD;rw[yk hi]
 cases þ b id<;>rfl
def aau (e:Int):Option Int:=if e=0 then none else some e
def ahz (b:Ğ) (g d:Int):Bool×Int:=if Mb b g [d]≠0 then(false,Mb b g [d]) else((lh b g d).isSome,0)
def ahy {b:Ğ} (h:In b) (g d:Int):yJ b g d=some (ahz b g d):=by
 have hu:=h.size.loans;unfold yJ Rn ahz;rw[adU h g (by simp),À]
 by_cases ha:Mb b g [d]=0
 ·rw[Ì (by simp[ine,ha]),adS (by omega),À,if_neg (by simpa using ha)]
  cases lh b g d<;>rfl
 ·rw[Ù (by simp[ine,ha]),if_pos ha]
end Go.Proofs.ZzM
end
