/- lemmas -/
import Derived.Test.YtdmegkgjpgcfgaaGreatMdPA
import Derived.Test.YtdmegkgjpgcfgaaGreatMdTA
set_option linter.all false
set_option linter.unusedSectionVars false
set_option linter.unusedVariables false
set_option linter.unusedSimpArgs false
noncomputable section
namespace Go.Proofs.ZzM
open Go Go.Am
abbrev Lk:Type:=Int×Int×Int
inductive Wl (L:List Lk) (S:Int→Prop):List Int→Int→Int→Prop
 |nil {v:Int}:S v→Wl L S [] v 0
 |step {vs:List Int} {u v m d:Int}:Wl L S vs u d→(u,v,m)∈L→Wl L S (u::vs) v (d+m)
def Pot (L:List Lk) (p:Int→Int):Prop:=∀u v m,(u,v,m)∈L→p v≤p u+m
def InR (L:List Lk) (N:Nat):Prop:=∀l∈L,(0≤l.1∧l.1<N)∧(0≤l.2.1∧l.2.1<N)
section
variable {L:List Lk} {S:Int→Prop} {N:Nat} {p:Int→Int}
def Wl.cut (hp:Pot L p) {vs:List Int} {v d:Int} (h:Wl L S vs v d):∀x∈vs,∃vs1 d1,Wl L S vs1 x d1∧(x::vs1) <:+ vs∧d1+(p v-p x)≤d:=by
 induction h with
 |nil h=>intro x hx; cases hx
 | @step vs u v m d hw hl ih =>
  intro x hx;have h1:=hp u v m hl;rcases cN.1 hx with rfl|hx
  ·exact⟨vs,d,hw,List.suffix_refl _,by omega⟩
  ·obtain⟨vs1,d1,g1,g2,g3⟩:=ih x hx;exact⟨vs1,d1,g1,g2.trans (List.suffix_cons _ _),by omega⟩
def Wl.simple (hp:Pot L p) {vs:List Int} {v d:Int} (h:Wl L S vs v d):∃vs' d',Wl L S vs' v d'∧d'≤d∧(v::vs').Nodup:=by
 induction h with
 |nil h=>exact⟨[],0,.nil h,dP _,by simp⟩
 | @step vs u v m d hw hl ih =>
  obtain⟨vs1,d1,g1,g2,g3⟩:=ih;have hw1:=Wl.step g1 hl
  by_cases hv:v∈u::vs1
  ·obtain⟨vs2,d2,k1,k2,k3⟩:=hw1.cut hp v hv;exact⟨vs2,d2,k1,by omega,g3.sublist k2.sublist⟩
  ·exact⟨u::vs1,d1+m,hw1,by omega,eM.2 ⟨hv,g3⟩⟩
def Wl.range (hL:InR L N) (hS:∀v,S v→0≤v∧v<N) {vs:List Int} {v d:Int} (h:Wl L S vs v d):(0≤v∧v<N)∧∀u∈vs,0≤u∧u<N:=by
 induction h with
 |nil h=>exact⟨hS _ h,fun u hu=>by cases hu⟩
 | @step vs u v m d hw hl ih =>
  refine⟨(hL _ hl).2,fun w hw'=>?_⟩;rcases cN.1 hw' with rfl|h
  ·exact ih.1
  ·exact ih.2 w h
def aao:∀(N:Nat) (l:List Int),l.Nodup→(∀x∈l,0≤x∧x<N)→l.length≤N
 |0,l,_,h=>by
  cases l with
  |nil=>simp
  |cons a l=>have:=h a (by simp); omega
 |N+1,l,hn,h=>by
  have h1:(l.erase (N:Int)).length≤N:=aao N _ (hn.erase _) fun x hx=>by
   have h2:=(hn.mem_erase_iff).1 hx;have:=h x h2.2;have:=h2.1;omega
  have:=List.length_erase (a:=(N:Int)) (l:=l)
  split at this<;>omega
def Wl.short (hL:InR L N) (hS:∀v,S v→0≤v∧v<N) {vs:List Int} {v d:Int} (h:Wl L S vs v d) (hn:(v::vs).Nodup):vs.length+1≤N:=by
 have:=h.range hL hS
 exact aao N (v::vs) hn fun x hx=>by
  rcases cN.1 hx with rfl|hx
  ·exact this.1
  ·exact this.2 x hx
def IB (f:Lk→Bool):List Lk→Int
 |[]=>0
 |l::t=>(if f l then min l.2.2 0 else 0)+IB f t
def aee (f:Lk→Bool):∀L:List Lk,IB (fun _=>true) L≤IB f L
 |[]=>dP _
 |l::t=>by
  have:=aee f t;simp only[IB,if_true]
  split<;>omega
def vp (f:Lk→Bool):∀L:List Lk,IB f L≤0
 |[]=>dP _
 |l::t=>by
  have:=vp f t;simp only[IB]
  split<;>omega
def aaC {f:Lk→Bool} {l:Lk} (hf:f l=true):∀{L:List Lk},l∈L→IB f L≤l.2.2
 |a::t,h=>by
  simp only[IB];rcases cN.1 h with rfl|h
  ·have:=vp f t;rw[if_pos hf]; omega
  ·have:=aaC hf h
   split<;>omega
def aed {f g:Lk→Bool} (h:∀l,f l=true→g l=false):∀L:List Lk,IB (fun l=>f l||g l) L=IB f L+IB g L
 |[]=>rfl
 |l::t=>by
  have ih:=aed h t;simp only[IB,ih]
  by_cases hf:f l=true
  ·simp[hf,h l hf]; omega
  ·have hf':f l=false:=by simpa using hf
   by_cases hg:g l=true
   ·simp[hf',hg]; omega
   ·simp[hf',hg]
def Wl.low {vs:List Int} {v d:Int} (h:Wl L S vs v d):vs.Nodup→IB (fun l=>vs.contains l.1) L≤d:=by
 induction h with
 |nil h=>intro _; exact vp _ _
 | @step vs u v m d hw hl ih =>
  intro hn;rw[eM] at hn;have h1:=ih hn.2;have h2:IB (fun l=>l.1==u) L≤m:=aaC (f:=fun l=>l.1==u) (l:=(u,v,m)) (by simp) hl
  have h3:=aed (f:=fun l:Lk=>l.1==u) (g:=fun l=>vs.contains l.1) (fun l hf=>by
   simp only[beq_iff_eq] at hf;rw[hf]
   simpa using hn.1) L
  have h4:(fun l:Lk=>(u::vs).contains l.1)=fun l=>(l.1==u)||vs.contains l.1:=by funext l; rw[List.contains_cons]
  rw[h4,h3];omega
def JD (L:List Lk):Int:=IB (fun _=>true) L
def Wl.low' (hp:Pot L p) {vs:List Int} {v d:Int} (h:Wl L S vs v d):JD L≤d:=by
 obtain⟨vs',d',h1,h2,h3⟩:=h.simple hp;have:=h1.low (List.nodup_cons.1 h3).2;have:=aee (fun l=>vs'.contains l.1) L;unfold JD;omega
def Wl.high {M:Int} (hM:∀l∈L,l.2.2≤M) {vs:List Int} {v d:Int} (h:Wl L S vs v d):d≤vs.length*M:=by
 induction h with
 |nil h=>simp
 | @step vs u v m d hw hl ih =>
  have:=hM _ hl;simp only[cW,gz,gn,gD];simp only at this;omega
def Wl.lowM {M:Int} (hM:∀l∈L,-M≤l.2.2) {vs:List Int} {v d:Int} (h:Wl L S vs v d) : -(vs.length*M)≤d:=by
 induction h with
 |nil h=>simp
 | @step vs u v m d hw hl ih =>
  have:=hM _ hl;simp only[cW,gz,gn,gD];simp only at this;omega
def Wl.mono {S':Int→Prop} (hS:∀v,S v→S' v) {vs:List Int} {v d:Int} (h:Wl L S vs v d):Wl L S' vs v d:=by
 induction h with
 |nil h=>exact .nil (hS _ h)
 |step hw hl ih=>exact .step ih hl
def Wl.pot (hp:Pot L p) {vs:List Int} {v d:Int} (h:Wl L S vs v d):∃s,S s∧p v-p s≤d:=by
 induction h with
 | @nil v h=>exact⟨v,h,by omega⟩
 | @step vs u v m d hw hl ih =>
  obtain⟨s,h1,h2⟩:=ih;have:=hp u v m hl;exact⟨s,h1,by omega⟩
end
abbrev Ŝ:Int:=1152921504606846976
structure ac4 (L:List Lk) (S:Int→Prop) (N:Nat) (x:Int→Int):Prop where
 att:∀v:Int,0≤v→v<N→x v≠Ŝ→∃vs,Wl L S vs v (x v)
 low:∀v vs d,Wl L S vs v d→x v≤d
 bd:∀v:Int,0≤v→v<N→x v≤Ŝ
def ac4.uniq {L:List Lk} {S:Int→Prop} {N:Nat} {x y:Int→Int} (hx:ac4 L S N x) (hy:ac4 L S N y) {v:Int} (h0:0≤v) (h1:v<N):x v=y v:=by
 have key:∀{x y:Int→Int},ac4 L S N x→ac4 L S N y→x v≤y v:=by
  intro x y hx hy
  by_cases h:y v=Ŝ
  ·rw[h]; exact hx.bd v h0 h1
  ·obtain⟨vs,hw⟩:=hy.att v h0 h1 h;exact hx.low v vs _ hw
 exact Int.le_antisymm (key hx hy) (key hy hx)
def gv (x:List Int) (v:Int):Int:=x[v.toNat]?.getD 0
def WT {x:List Int} {v:Int} (h:v.toNat<x.length):x[v.toNat]?=some (gv x v):=by
 unfold gv; rw[List.getElem?_eq_getElem h]; rfl
def sr {x:List Int} {u v:Int} (hu:0≤u) (hv:0≤v) (h:u.toNat<x.length) (y:Int):gv (x.set u.toNat y) v=if v=u then y else gv x v:=by
 unfold gv;rw[List.getElem?_set]
 by_cases hvu:v=u
 ·subst hvu; simp[h]
 ·have:¬u.toNat=v.toNat:=by omega
  simp[hvu,this]
def aaS {x y:List Int} (hl:x.length=y.length) (h:∀v:Int,0≤v→v<x.length→gv x v=gv y v):x=y:=by
 refine List.ext_getElem hl fun i h1 h2=>?_;have:=h i (by omega) (by omega);unfold gv at this;simpa[h1,h2] using this
def mf (x:List Int) (l:Lk):List Int:=if gv x l.1<Ŝ∧gv x l.1+l.2.2<gv x l.2.1 then x.set l.2.1.toNat (gv x l.1+l.2.2) else x
def Iz (L:List Lk) (x:List Int):List Int:=L.foldl mf x
def lg (L:List Lk):Nat→List Int→List Int
 |0,x=>x
 |n+1,x=>lg L n (Iz L x)
def oW (x:List Int) (l:Lk):(mf x l).length=x.length:=by unfold mf; split<;>simp
def xF (L:List Lk):∀x:List Int,(Iz L x).length=x.length:=by
 induction L with
 |nil=>intro x; rfl
 |cons l t ih=>intro x; show(Iz t (mf x l)).length=_; rw[ih,oW]
def ť (L:List Lk):∀(n:Nat) (x:List Int),(lg L n x).length=x.length
 |0,x=>rfl
 |n+1,x=>by rw[lg,ť L n,xF]
def BM (L:List Lk):∀(n:Nat) (x:List Int),lg L (n+1) x=Iz L (lg L n x)
 |0,x=>rfl
 |n+1,x=>by rw[lg,BM L n]; rfl
section
variable {L0:List Lk} {S:Int→Prop} {N:Nat}
def UE {x:List Int} {l:Lk} (hl:(0≤l.1∧l.1<N)∧(0≤l.2.1∧l.2.1<N)) (hx:x.length=N) (v:Int) (hv:0≤v):gv (mf x l) v≤gv x v:=by
 unfold mf
 split
 ·rename_i h;rw[sr hl.2.1 hv (by omega)]
  split
  ·rename_i h2; subst h2; omega
  ·exact dP _
 ·exact dP _
def C9:∀{L:List Lk},InR L N→∀{x:List Int},x.length=N→∀v,0≤v→gv (Iz L x) v≤gv x v
 |[],_,x,_,v,_=>dP _
 |l::t,hL,x,hx,v,hv=>by
  have h1:=UE (hL l (by simp)) hx v hv;have h2:=C9 (L:=t) (fun l hl=>hL l (by simp[hl])) (x:=mf x l) (by rw[oW,hx]) v hv;show gv (Iz t (mf x l)) v≤_;omega
def F0:∀{L:List Lk},InR L N→∀{x:List Int},x.length=N→∀u v m,(u,v,m)∈L→gv x u<Ŝ→gv (Iz L x) v≤gv x u+m
 |l::t,hL,x,hx,u,v,m,hm,hf=>by
  have ht:InR t N:=fun l hl=>hL l (by simp[hl])
  have hx':(mf x l).length=N:=by rw[oW,hx]
  show gv (Iz t (mf x l)) v≤_;rcases cN.1 hm with rfl|hm
  ·have hl:=hL (u,v,m) (by simp);have h2:=C9 ht hx' v hl.2.1
   have h3:gv (mf x (u,v,m)) v≤gv x u+m:=by
    unfold mf
    split
    ·rw[sr hl.2.1 hl.2.1 (by simp only at hl; simp only; omega),if_pos rfl]; exact dP _
    ·rename_i h; simp only[not_and,Int.not_lt] at h; exact h hf
   omega
  ·have hl:=hL (u,v,m) (by simp[hm]);have h1:=UE (hL l (by simp)) hx u hl.1.1;have:=F0 ht hx' u v m hm (by omega);omega
def Att (L0:List Lk) (S:Int→Prop) (N:Nat) (x:List Int):Prop:=∀v:Int,0≤v→v<N→gv x v<Ŝ→∃vs,Wl L0 S vs v (gv x v)
def abU {x:List Int} {l:Lk} (hl:(0≤l.1∧l.1<N)∧(0≤l.2.1∧l.2.1<N)) (hm:l∈L0) (hx:x.length=N) (h:Att L0 S N x):Att L0 S N (mf x l):=by
 unfold mf
 split
 ·rename_i hc;intro v h0 h1 hf;rw[sr hl.2.1 h0 (by omega)] at hf ⊢
  split
  ·rename_i h2;obtain⟨vs,hw⟩:=h l.1 hl.1.1 hl.1.2 hc.1;exact⟨_,h2▸Wl.step hw hm⟩
  ·rename_i h2;rw[if_neg h2] at hf;exact h v h0 h1 hf
 ·exact h
def UN:∀{L:List Lk},InR L N→(∀l∈L,l∈L0)→∀{x:List Int},x.length=N→Att L0 S N x→Att L0 S N (Iz L x)
 |[],_,_,_,_,h=>h
 |l::t,hL,hsub,x,hx,h=>UN (L:=t) (fun l hl=>hL l (by simp[hl])) (fun l hl=>hsub l (by simp[hl])) (x:=mf x l) (by rw[oW,hx]) (abU (hL l (by simp)) (hsub l (by simp)) hx h)
def PH (hL:InR L0 N):∀(n:Nat) {x:List Int},x.length=N→Att L0 S N x→Att L0 S N (lg L0 n x)
 |0,_,_,h=>h
 |n+1,x,hx,h=>PH hL n (by rw[xF,hx]) (UN hL (fun _ h=>h) hx h)
def C8 (hL:InR L0 N):∀(n:Nat) {x:List Int},x.length=N→∀v,0≤v→gv (lg L0 n x) v≤gv x v
 |0,_,_,_,_=>dP _
 |n+1,x,hx,v,hv=>Int.le_trans (C8 hL n (by rw[xF,hx]) v hv) (C9 hL hx v hv)
def vh (S:Int→Bool) (N:Nat):List Int:=(List.range N).map fun(i:Nat)=>if S i then 0 else Ŝ
def i6 (S:Int→Bool) {N:Nat} {v:Int} (h0:0≤v) (h1:v<N):gv (vh S N) v=if S v then 0 else Ŝ:=by
 unfold gv vh
 have:v.toNat<N:=by omega
 rw[eQ,f8 this];simp only[dL,f6];rw[Int.toNat_of_nonneg h0]
def đ (S:Int→Bool) (N:Nat):(vh S N).length=N:=by simp[vh]
end
def FZ {L:List Lk} {S:Int→Bool} {N:Nat} {M:Int} (hL:InR L N) (hS:∀v,S v=true→0≤v∧v<N) (hM:∀l∈L,l.2.2≤M):∀(n:Nat),n*M<Ŝ→0≤M→∀vs v d,Wl L (fun v=>S v=true) vs v d→vs.length≤n→gv (lg L n (vh S N)) v≤d
 |0,_,_,vs,v,d,hw,hl=>by
  cases hw with
  |nil h =>
   have:=hS v h;rw[lg,i6 S this.1 this.2,if_pos h]; exact dP _
  |step=>simp at hl
 |n+1,hn,hM0,vs,v,d,hw,hl=>by
  have hn':n*M<Ŝ:=by rw[gz,gn,gD] at hn; omega
  have hlen:(lg L n (vh S N)).length=N:=by rw[ť,đ]
  rw[BM]
  cases hw with
  |nil h =>
   have h1:=C9 hL hlen v (hS v h).1;have h2:=FZ hL hS hM n hn' hM0 [] v 0 (.nil h) (by simp);omega
  | @step vs u _ m d hw hlk =>
   have h2:=FZ hL hS hM n hn' hM0 vs u d hw (by simpa using hl);have h3:=hw.high hM;have h4:(vs.length:Int)*M≤n*M:=fE (by simp at hl; omega) hM0;have:=F0 hL hlen u v m hlk (by omega);omega
def Kj {L:List Lk} {S:Int→Bool} {N:Nat} {M:Int} {p:Int→Int} (hp:Pot L p) (hL:InR L N) (hS:∀v,S v=true→0≤v∧v<N) (hM:∀l∈L,l.2.2≤M) (hM0:0≤M) (hN:N*M<Ŝ) (n:Nat) (hn:N≤n+1):ac4 L (fun v=>S v=true) N (gv (lg L n (vh S N))):=by
 have hatt:Att L (fun v=>S v=true) N (vh S N):=fun v h0 h1 hf=>by
  rw[i6 S h0 h1] at hf ⊢
  split
  ·rename_i h; exact⟨[],.nil h⟩
  ·rename_i h; rw[if_neg h] at hf; omega
 have hbd:∀v:Int,0≤v→v<N→gv (lg L n (vh S N)) v≤Ŝ:=fun v h0 h1=>by
  have:=C8 hL n (đ S N) v h0;rw[i6 S h0 h1] at this
  have hF:(0:Int)≤Ŝ:=by decide
  split at this<;>omega
 have hlow:∀(n:Nat),N≤n+1→∀v vs d,Wl L (fun v=>S v=true) vs v d→gv (lg L n (vh S N)) v≤d:=by
  intro n hn v vs d hw;obtain⟨vs',d',h1,h2,h3⟩:=hw.simple hp;have h4:=h1.short hL hS h3
  have hpos:0<N:=by omega
  obtain⟨k,rfl⟩:∃k,N=k+1:=⟨N-1,by omega⟩
  have hk:(k:Int)*M<Ŝ:=by rw[gz,gn,gD] at hN; omega
  have h5:=FZ hL hS hM k hk hM0 vs' v d' h1 (by omega);obtain⟨j,rfl⟩:∃j,n=k+j:=⟨n-k,by omega⟩
  have h6:∀(j:Nat),gv (lg L (k+j) (vh S (k+1))) v≤gv (lg L k (vh S (k+1))) v:=by
   intro j
   induction j with
   |zero=>exact dP _
   |succ j ih =>
    rw[←Nat.add_assoc,BM];have:=C9 hL (x:=lg L (k+j) (vh S (k+1))) (by rw[ť,đ]) v (h1.range hL hS).1.1;omega
  have:=h6 j;omega
 exact⟨fun v h0 h1 hne=>PH hL n (đ S N) hatt v h0 h1 (by have:=hbd v h0 h1; omega),hlow n hn,hbd⟩
def ac4.pot {L:List Lk} {S:Int→Prop} {N:Nat} {x:Int→Int} (h:ac4 L S N x) (hL:InR L N) {u v m:Int} (hl:(u,v,m)∈L) (hf:x u≠Ŝ):x v≤x u+m:=by
 obtain⟨vs,hw⟩:=h.att u (hL _ hl).1.1 (hL _ hl).1.2 hf;exact h.low v _ _ (.step hw hl)
section
variable {α:Type} (key:α→Int)
def Srt (l:List α):Prop:=l.Pairwise fun x y=>key x≤key y
def Stb (l s:List α):Prop:=∀k:Int,s.filter (fun x=>key x==k)=l.filter (fun x=>key x==k)
variable {key}
def Stb.refl (l:List α):Stb key l l:=fun _=>rfl
def Stb.symm {l s:List α} (h:Stb key l s):Stb key s l:=fun k=>(h k).symm
def Stb.trans {l s t:List α} (h:Stb key l s) (h2:Stb key s t):Stb key l t:=fun k=>(h2 k).trans (h k)
def Stb.append {l s l' s':List α} (h:Stb key l s) (h2:Stb key l' s'):Stb key (l++l') (s++s'):=fun k=>by
 rw[eN,eN,h k,h2 k]
def Stb.mem {l s:List α} (h:Stb key l s) {x:α}:x∈s↔x∈l:=by
 have:=h (key x);constructor
 ·intro hx;have:x∈s.filter fun y=>key y==key x:=dH.2 ⟨hx,by simp⟩;rw[h] at this;exact(dH.1 this).1
 ·intro hx;have:x∈l.filter fun y=>key y==key x:=dH.2 ⟨hx,by simp⟩;rw[←h] at this;exact(dH.1 this).1
def Stb.swap {u v:List α} (h:∀x∈u,∀y∈v,key x≠key y):Stb key (u++v) (v++u):=fun k=>by
 rw[eN,eN]
 by_cases hu:∃x∈u,key x=k
 ·obtain⟨x,hx,rfl⟩:=hu
  have:v.filter (fun y=>key y==key x)=[]:=gT.2 fun y hy=>by
   have:=h x hx y hy;simp; omega
  rw[this]; simp
 ·have:u.filter (fun y=>key y==k)=[]:=gT.2 fun y hy=>by
   simp;exact fun e=>hu ⟨y,hy,e⟩
  rw[this]; simp
def Stb.uniq:∀{s t:List α},Srt key s→Srt key t→Stb key s t→s=t
 |[],[],_,_,_=>rfl
 |[],y::t,_,_,h=>absurd ((h.mem (x:=y)).1 (by simp)) (by simp)
 |x::s,[],_,_,h=>absurd ((h.mem (x:=x)).2 (by simp)) (by simp)
 |x::s,y::t,hs,ht,h=>by
  have h1:=dt.1 hs;have h2:=dt.1 ht
  have hk:key x=key y:=by
   have a1:key x≤key y:=by
    rcases cN.1 ((h.mem (x:=y)).1 (by simp)) with e|hm
    ·rw[e]; exact dP _
    ·exact h1.1 y hm
   have a2:key y≤key x:=by
    rcases cN.1 ((h.mem (x:=x)).2 (by simp)) with e|hm
    ·rw[e]; exact dP _
    ·exact h2.1 x hm
   omega
  have hx:x=y:=by
   have:=h (key x);have hky:(key y==key x)=true:=beq_iff_eq.2 hk.symm;have hkx:(key x==key x)=true:=beq_iff_eq.2 rfl;simp only[dT,hky,hkx,if_true] at this;exact(List.cons.inj this).1.symm
  subst hx;congr 1;refine Stb.uniq h1.2 h2.2 fun k=>?_;have:=h k
  by_cases hk:key x=k
  ·rw[List.filter_cons_of_pos (by simp[hk]),List.filter_cons_of_pos (by simp[hk])] at this;exact(List.cons.inj this).2
  ·rw[List.filter_cons_of_neg (by simp[hk]),List.filter_cons_of_neg (by simp[hk])] at this;exact this
variable (key)
def acp (x:α):List α→List α
 |[]=>[x]
 |y::l=>if key x≤key y then x::y::l else y::acp x l
def Ľ (l:List α):List α:=l.foldr (acp key) []
variable {key}
def Tm (x:α):∀l:List α,Stb key (x::l) (acp key x l)
 |[]=>Stb.refl _
 |y::l=>by
  unfold acp
  split
  ·exact Stb.refl _
  ·rename_i h;refine Stb.trans (s:=y::x::l) ?_ fun k=>?_
   ·have:=Stb.swap (key:=key) (u:=[x]) (v:=[y]) (fun a ha b hb=>by simp at ha hb; subst ha hb; omega);exact(this.append (Stb.refl l))
   ·have:=Tm x l k;simp only[dT];rw[this];simp only[dT]
def ahh {x z:α} {l:List α}:z∈acp key x l↔z=x∨z∈l:=by
 rw[(Tm x l).mem,cN]
def aaQ (x:α):∀{l:List α},Srt key l→Srt key (acp key x l)
 |[],_=>fK _ _
 |y::l,h=>by
  have h1:=List.pairwise_cons.1 h;unfold acp
  split
  ·rename_i hx;refine List.Pairwise.cons (fun z hz=>?_) h;rcases cN.1 hz with rfl|hz
   ·exact hx
   ·exact Int.le_trans hx (h1.1 z hz)
  ·rename_i hx;refine List.Pairwise.cons (fun z hz=>?_) (aaQ x h1.2);rcases ahh.1 hz with rfl|hz
   ·omega
   ·exact h1.1 z hz
def jt:∀l:List α,Srt key (Ľ key l)
 |[]=>List.Pairwise.nil
 |x::l=>aaQ x (jt l)
def ł:∀l:List α,Stb key l (Ľ key l)
 |[]=>Stb.refl _
 |x::l=>by
  have:Stb key (x::l) (x::Ľ key l):=(Stb.refl [x]).append (ł l);exact this.trans (Tm x _)
def wq {l s:List α} (h:Srt key s) (h2:Stb key l s):Ľ key l=s:=Stb.uniq (jt l) h ((ł l).symm.trans h2)
def Stb.perm {l s:List α} [DecidableEq α] (h:Stb key l s):s.Perm l:=by
 rw[List.perm_iff_count];intro x
 have e:∀l:List α,l.count x=(l.filter fun y=>key y==key x).count x:=fun l=>by
  rw[List.count_filter];simp
 rw[e s,e l,h]
def Stb.length {l s:List α} (h:Stb key l s):s.length=l.length:=by
 classical
 exact h.perm.length_eq
def Srt.append {l s:List α} (h:Srt key l) (h2:Srt key s) (h3:∀x∈l,∀y∈s,key x≤key y):Srt key (l++s):=fW.2 ⟨h,h2,h3⟩
def Srt.parts {l s:List α} (h:Srt key (l++s)):Srt key l∧Srt key s∧∀x∈l,∀y∈s,key x≤key y:=fW.1 h
end
abbrev Way:=List (List Int)
abbrev ŕ:=Val Â
def Ė (m:ŕ) (x:Way):Int:=(ĵ m x).getD 0
def WOk (m:ŕ) (l:List Way):Prop:=∀x∈l,ĵ m x=some (Ė m x)
section
variable {ρ:Type} {m:ŕ}
def afq (a b:Int):iv a b=some (if a<b then -1 else if b<a then 1 else 0):=by
 unfold iv mP lS qt
 have e:∀x:Int,ine x x=false:=fun x=>by simp[ine]
 rw[e,e,À,À,é,é]
 by_cases h:a<b
 ·rw[Ø (decide_eq_true h),if_pos h]
 ·rw[Í (decide_eq_false h),if_neg h]
  by_cases h2:b<a
  ·rw[Ø (decide_eq_true h2),if_pos h2]
  ·rw[Í (decide_eq_false h2),if_neg h2]
def Ud {x y:Way} (hx:ĵ m x=some (Ė m x)) (hy:ĵ m y=some (Ė m y)):jI x y m=some (if Ė m x<Ė m y then -1 else if Ė m y<Ė m x then 1 else 0):=by
 unfold jI Gg;rw[hx,À,hy,À,afq,À]
def aaL {x y:Way} (hx:ĵ m x=some (Ė m x)) (hy:ĵ m y=some (Ė m y)) (X Y:Option ρ):(Ä (jI x y m) fun r=>ifb (ilt r (0:Int)) X Y)=if Ė m x<Ė m y then X else Y:=by
 rw[Ud hx hy,À]
 by_cases h:Ė m x<Ė m y
 ·rw[if_pos h,if_pos h]; rfl
 ·rw[if_neg h,if_neg h]
  by_cases h2:Ė m y<Ė m x
  ·rw[if_pos h2]; rfl
  ·rw[if_neg h2]; rfl
def ajm {α:Type} (A:List α) (x:α) (B:List α):(A++x::B)[A.length]?=some x:=by simp
def aiU {α:Type} (A:List α) (x y:α) (B:List α):(A++x::B).set A.length y=A++y::B:=by simp
def iY {α:Type} {l A B:List α} {x:α} {i:Int} (h:l=A++x::B) (hi:i=A.length) (K:α→Option ρ):(ä ((ile (0:Int) i)&&(ilt i (î l))) (ĸ l (Int.toNat i) K))=K x:=by
 subst h hi;rw[ċ (by simp[ile,ilt,î]; omega),cT,i9 (ajm A x B)]
def HM {α:Type} {l A B:List α} {x:α} {i:Int} (h:l=A++x::B) (hi:i=A.length) (y:α):List.set l (Int.toNat i) y=A++y::B:=by
 subst h hi;rw[cT,aiU]
def ins_L1 {c0:Int} {A C:List Way} {x y:Way} (hx:ĵ m x=some (Ė m x)) (hy:ĵ m y=some (Ė m y)) (hc:c0≤A.length) (hl:A.length≤1000000) (kn:Int→List Way→Option ρ) (k0:List Way→Option ρ) :
 ç c0 m.1.1.1 m.1.1.2 m.1.2.1 m.1.2.2.1 m.1.2.2.2.1 m.1.2.2.2.2.1 m.1.2.2.2.2.2 m.2 ((A.length:Int)+1) (A++y::x::C) kn k0 =
  if Ė m x<Ė m y then kn A.length (A++x::y::C) else k0 (A++y::x::C):=by
 have e1:((A.length:Int)+1-1)=A.length:=by omega
 have s1:A++y::x::C=(A++[y])++x::C:=by simp
 have l1:((A.length:Int)+1)=(A++[y]).length:=by simp
 unfold ç;rw[Ø (decide_eq_true (by omega)),iY s1 l1,e1,Ô (by omega) (by omega),iY (A:=A) (x:=y) (B:=x::C) rfl rfl];refine(aaL hx hy _ _).trans ?_
 split
 ·rw[Ô (by omega) (by omega),Ô (by omega) (by omega),iY (A:=A) (x:=y) (B:=x::C) rfl rfl,iY s1 l1,iY s1 l1,HM s1 l1]
  have s2:A++[y]++y::C=A++y::y::C:=by simp
  rw[s2,iY (A:=A) (x:=y) (B:=y::C) rfl rfl,HM (A:=A) (x:=y) (B:=y::C) rfl rfl,Ô (by omega) (by omega)]
 ·rfl
def ahg {c0:Int} {P S Q:List Way} {x:Way} (hP:c0=P.length) (hS:Srt (Ė m) S) (hW:WOk m (x::S)) (hl:P.length+S.length≤1000000) (K:List Way→Option ρ) :
 Ë (fun(v:Int×List Way) kk=>ç c0 m.1.1.1 m.1.1.2 m.1.2.1 m.1.2.2.1 m.1.2.2.2.1 m.1.2.2.2.2.1 m.1.2.2.2.2.2 m.2 v.1 v.2 (fun a b=>kk (a,b)) K) (((P.length+S.length:Nat):Int),P++(S++x::Q))=K (P++(Ľ (Ė m) (S++[x])++Q)):=by
 subst hP;have hxW:=hW x (by simp)
 -- when it stops
 have stop:∀A B:List Way,S=A++B→(∀t∈B,Ė m x<Ė m t)→(∀t∈A,Ė m t≤Ė m x)→Ľ (Ė m) (S++[x])=A++x::B:=fun A B hAB hB hA=>by
  subst hAB;obtain⟨h1,h2,h3⟩:=hS.parts;refine wq ?_ ?_
  ·refine h1.append (List.Pairwise.cons (fun t ht=>by have:=hB t ht; omega) h2) fun a ha b hb=>?_;rcases cN.1 hb with rfl|hb
   ·exact hA a ha
   ·exact h3 a ha b hb
  ·have:=Stb.swap (key:=Ė m) (u:=B) (v:=[x]) (fun a ha b hb=>by simp at hb; subst hb; have:=hB a ha; omega);have h4:=(Stb.refl (key:=Ė m) A).append this;rw[←cQ] at h4;exact h4
 refine ĝ (fun v:Int×List Way=>∃A B:List Way,S=A++B∧(∀t∈B,Ė m x<Ė m t)∧v=(((P.length+A.length:Nat):Int),P++(A++x::(B++Q)))) (fun v=>v.1.toNat) ?_ ⟨S,[],by simp,by simp,by simp⟩;rintro v ⟨A,B,hAB,hB,rfl⟩
 cases hA:A.reverse with
 |nil =>
  have hA0:A=[]:=by simpa using hA
  subst hA0;refine .inl fun kn=>?_;dsimp only;unfold ç;rw[Í (decide_eq_false (by simp)),stop [] B hAB hB (by simp)];simp
 |cons y A' =>
  have hA0:A=A'.reverse++[y]:=by
   have:=congrArg List.reverse hA;simpa using this
  generalize A'.reverse=A1 at hA0;subst hA0;have hyW:ĵ m y=some (Ė m y):=hW y (by rw[hAB]; simp)
  have hstep:∀kn:Int×List Way→Option ρ,ç (P.length:Int) m.1.1.1 m.1.1.2 m.1.2.1 m.1.2.2.1 m.1.2.2.2.1 m.1.2.2.2.2.1 m.1.2.2.2.2.2 m.2 ((P.length+(A1++[y]).length:Nat):Int) (P++(A1++[y]++x::(B++Q))) (fun a b=>kn (a,b)) K =
   if Ė m x<Ė m y then kn (((P.length+A1.length:Nat):Int),P++(A1++x::(y::B++Q))) else K (P++(A1++[y]++x::(B++Q))):=fun kn=>by
   have e1:((P.length+(A1++[y]).length:Nat):Int)=((P++A1).length:Int)+1:=by simp; omega
   have e2:P++(A1++[y]++x::(B++Q))=(P++A1)++y::x::(B++Q):=by simp
   have hlen:A1.length≤S.length:=by rw[hAB]; simp
   rw[e1,e2,ins_L1 hxW hyW (by simp; omega) (by simp; omega)];simp
  by_cases hxy:Ė m x<Ė m y
  ·refine .inr ⟨(((P.length+A1.length:Nat):Int),P++(A1++x::(y::B++Q))),⟨A1,y::B,by rw[hAB]; simp,fun t ht=>?_,rfl⟩,by simp; omega,fun kn=>(hstep kn).trans (if_pos hxy)⟩;rcases cN.1 ht with rfl|ht
   ·exact hxy
   ·exact hB t ht
  ·refine .inl fun kn=>(hstep kn).trans ?_;rw[if_neg hxy,stop (A1++[y]) B hAB hB fun t ht=>?_]
   ·simp
   ·obtain⟨h1,_,_⟩:=Srt.parts (hAB▸hS);obtain⟨_,_,h3⟩:=Srt.parts h1;rcases cM.1 ht with ht|ht
    ·have:=h3 t ht y (by simp); omega
    ·simp at ht; subst ht; omega
def WOk.sub {l s:List Way} (h:WOk m l) (hs:∀x∈s,x∈l):WOk m s:=fun x hx=>h x (hs x hx)
def Ih {P M Q:List Way} (hW:WOk m M) (hl:P.length+M.length≤1000000):æ (P++(M++Q)) P.length ((P.length+M.length:Nat):Int) m=some (P++(Ľ (Ė m) M++Q),m):=by
 unfold æ ū;rw[Ô (by omega) (by omega)];refine ĝ (fun v:Int×List Way=>(M.length=0∧v=((P.length:Int)+1,P++(M++Q)))∨∃k:Nat,1≤k∧k≤M.length∧v=(((P.length+k:Nat):Int),P++(Ľ (Ė m) (M.take k)++(M.drop k++Q)))) (fun v=>(P.length+M.length+1)-v.1.toNat) ?_ ?_
 ·rintro v (⟨h0,rfl⟩|⟨k,hk1,hk2,rfl⟩)
  ·refine .inl fun kn=>?_;have:M=[]:=List.length_eq_zero_iff.1 h0;subst this;dsimp only;unfold č;rw[Í (decide_eq_false (by simp; omega))];rfl
  ·rcases gi hk2 with h|rfl
   ·have hg:M[k]?=some M[k]:=cF h;have hd:M.drop k=M[k]::M.drop (k+1):=dE h;have ht:M.take (k+1)=M.take k++[M[k]]:=take_succ hg;have hmem:M[k]∈M:=fe h;generalize M[k]=x at hg hd ht hmem
    have hlk:(Ľ (Ė m) (M.take k)).length=k:=by rw[(ł _).length]; simp; omega
    refine .inr ⟨(((P.length+(k+1):Nat):Int),P++(Ľ (Ė m) (M.take (k+1))++(M.drop (k+1)++Q))),.inr ⟨k+1,by omega,h,rfl⟩,by dsimp only; omega,fun kn=>?_⟩;dsimp only;unfold č;rw[Ø (decide_eq_true (by omega)),hd]
    have:=ahg (m:=m) (c0:=(P.length:Int)) (P:=P) (S:=Ľ (Ė m) (M.take k)) (Q:=M.drop (k+1)++Q) (x:=x) rfl (jt _) (fun y hy=>by
     rcases cN.1 hy with rfl|hy
     ·exact hW _ hmem
     ·exact hW _ (fX ((ł _).mem.1 hy))) (by omega) (fun z13=>ck (((P.length+k:Nat):Int)+(1:Int)) fun n14=>kn (n14,z13))
    rw[hlk] at this;refine this.trans ?_;rw[Ô (by omega) (by omega)];congr 1;refine Prod.ext (by dsimp only; omega) ?_;dsimp only
    have e:Ľ (Ė m) (Ľ (Ė m) (M.take k)++[x])=Ľ (Ė m) (M.take (k+1)):=by
     rw[ht];exact wq (jt _) (((ł (M.take k)).append (Stb.refl [x])).symm.trans (ł _))
    rw[e]
   ·refine .inl fun kn=>?_;dsimp only;unfold č;rw[Í (decide_eq_false (by omega))];simp
 ·cases M with
  |nil=>exact .inl ⟨rfl,rfl⟩
  |cons a M =>
   refine .inr ⟨1,cG _,by simp,?_⟩;refine Prod.ext (by simp) ?_;simp[Ľ,acp]
end
section
variable {ρ:Type} {m:ŕ}
def rot_L2:@ip ρ=@Č ρ:=rfl
def rot_L3:@il ρ=@Č ρ:=rfl
def vg {A U B V C:List Way} (hn:V.length=U.length) {a b n:Int} (ha:a=A.length) (hb:b=((A.length+U.length+B.length:Nat):Int)) (hnn:n=U.length) (hl:A.length+U.length+B.length+V.length≤1000000) (K:List Way→Option ρ) :
 Ë (fun(v:Int×List Way) kk=>Č a b n v.1 v.2 (fun x y=>kk (x,y)) K) ((0:Int),A++(U++(B++(V++C))))=K (A++(V++(B++(U++C)))):=by
 subst ha hb hnn;refine ĩ (List.replicate U.length ()) (fun i=>A++(V.take i++(U.drop i++(B++(U.take i++(V.drop i++C)))))) _ (by simp) (fun i x hi hx kn=>?_) (fun kn=>?_)
 ·try dsimp only
  rw[fw] at hi;have hu:U.drop i=U[i]::U.drop (i+1):=dE hi;have hv:V.drop i=V[i]::V.drop (i+1):=dE (by omega);have htu:U.take (i+1)=U.take i++[U[i]]:=take_succ (cF hi);have htv:V.take (i+1)=V.take i++[V[i]]:=take_succ (cF (by omega));generalize U[i]=u at hu htu;generalize V[i]=v at hv htv
  have lu:(U.take i).length=i:=by simp; omega
  have lv:(V.take i).length=i:=by simp; omega
  have ldu:(U.drop (i+1)).length=U.length-(i+1):=by simp
  rw[hu,hv,htu,htv];generalize U.drop (i+1)=U2 at *;generalize V.drop (i+1)=V2 at *;generalize U.take i=U1 at *;generalize V.take i=V1 at *;unfold Č
  -- the places
  have s1:A++(V1++(u::U2++(B++(U1++(v::V2++C)))))=(A++V1)++u::(U2++(B++(U1++(v::V2++C)))):=by simp
  have s2:A++(V1++(u::U2++(B++(U1++(v::V2++C)))))=(A++(V1++(u::U2++(B++U1))))++v::(V2++C):=by simp
  have p1:(A.length:Int)+i=(A++V1).length:=by simp; omega
  have p2:((A.length+U.length+B.length:Nat):Int)+i=(A++(V1++(u::U2++(B++U1)))).length:=by simp; omega
  have s3:(A++V1)++v::(U2++(B++(U1++(v::V2++C))))=(A++(V1++(v::U2++(B++U1))))++v::(V2++C):=by simp
  have p3:((A.length+U.length+B.length:Nat):Int)+i=(A++(V1++(v::U2++(B++U1)))).length:=by simp; omega
  rw[Ø (decide_eq_true (by omega)),Ô (by omega) (by omega),Ô (by omega) (by omega),Ô (by omega) (by omega),iY s2 p2,Ô (by omega) (by omega),iY s1 p1,iY s1 p1,HM s1 p1,iY s3 p3,HM s3 p3,Ô (by omega) (by omega)];simp
 ·try dsimp only
  unfold Č;rw[List.length_replicate,Í (decide_eq_false (by omega))];rw[List.take_of_length_le (l:=V) (by omega),List.drop_of_length_le (l:=U) (by omega),List.take_of_length_le (l:=U) (by omega),List.drop_of_length_le (l:=V) (by omega)];simp
def adI {A U V C:List Way} (hU:1≤U.length) (hV:1≤V.length) (hl:A.length+U.length+V.length≤1000000) :
 ķ (A++(U++(V++C))) A.length ((A.length+U.length:Nat):Int) ((A.length+U.length+V.length:Nat):Int) m=some (A++(V++(U++C)),m):=by
 unfold ķ jn;rw[Ô (by omega) (by omega),Ô (by omega) (by omega)];refine ĝ (fun v:Int×Int×List Way=>∃L X Y R:List Way,1≤X.length∧1≤Y.length∧L.length+X.length=U.length∧Y.length+R.length=V.length∧L++(Y++(X++R))=V++U∧v=((X.length:Int),(Y.length:Int),A++(L++(X++(Y++(R++C)))))) (fun v=>v.1.toNat+v.2.1.toNat) ?_ ⟨[],U,V,[],hU,hV,by simp,by simp,by simp,?_⟩
 rotate_left
 ·rw[Prod.mk.injEq,Prod.mk.injEq];refine⟨?_,?_,by simp⟩
  ·show((A.length+U.length:Nat):Int)-(A.length:Int)=(U.length:Int);omega
  ·show((A.length+U.length+V.length:Nat):Int)-((A.length+U.length:Nat):Int)=(V.length:Int);omega
 rintro v ⟨L,X,Y,R,hX,hY,h1,h2,h3,rfl⟩
 by_cases hxy:X.length=Y.length
 ·refine .inl fun kn=>?_;dsimp only;unfold Ĵ;rw[Í (by simp[ine,hxy])];dsimp only;rw[rot_L3,Ô (by omega) (by omega)];have:=vg (A:=A++L) (U:=X) (B:=[]) (V:=Y) (C:=R++C) hxy.symm (a:=((A.length+U.length:Nat):Int)-X.length) (b:=((A.length+U.length:Nat):Int)) (n:=X.length) (by simp; omega) (by simp; omega) rfl (by simp; omega) (fun z48=>some (z48,m))
  have e1:(A++L)++(X++([]++(Y++(R++C))))=A++(L++(X++(Y++(R++C)))):=by simp
  rw[e1] at this;refine this.trans ?_
  have e2:A++L++(Y++([]++(X++(R++C))))=A++((L++(Y++(X++R)))++C):=by simp
  rw[e2,h3];simp
 ·by_cases hgt:Y.length<X.length
  ·-- the first part of X and Y change places
   have l1:(X.take Y.length).length=Y.length:=by simp; omega
   have l2:(X.drop Y.length).length=X.length-Y.length:=by simp
   have ex:X=X.take Y.length++X.drop Y.length:=(dR _ _).symm;generalize X.take Y.length=X1 at l1 ex;generalize X.drop Y.length=X2 at l2 ex;subst ex;refine .inr ⟨((X2.length:Int),(X1.length:Int),A++((L++Y)++(X2++(X1++(R++C))))),⟨L++Y,X2,X1,R,by simp at l2 hgt; omega,by omega,by simp at h1 ⊢; omega,by omega,?_,rfl⟩,by simp at l2 ⊢; omega,fun kn=>?_⟩
   ·rw[←h3]; simp
   ·dsimp only;unfold Ĵ;have hg1:ine ((X1++X2).length:Int) (Y.length:Int)=true:=bne_iff_ne.2 (by omega);rw[Ø hg1,Ø (decide_eq_true (by omega)),Ô (by simp at h1 ⊢; omega) (by simp at h1 ⊢; omega)];have:=vg (A:=A++L) (U:=X1) (B:=X2) (V:=Y) (C:=R++C) l1.symm (a:=((A.length+U.length:Nat):Int)-(X1++X2).length) (b:=((A.length+U.length:Nat):Int)) (n:=Y.length) (by simp at h1 ⊢; omega) (by simp at h1 ⊢; omega) (by omega) (by simp at h1 ⊢; omega) (fun z13=>ck (((X1++X2).length:Int)-(Y.length:Int)) fun n14=>kn (n14,((Y.length:Int),z13)))
    have e1:(A++L)++(X1++(X2++(Y++(R++C))))=A++(L++(X1++X2++(Y++(R++C)))):=by simp
    rw[e1] at this;refine this.trans ?_;rw[Ô (by simp; omega) (by simp; omega)];congr 1;rw[Prod.mk.injEq,Prod.mk.injEq];exact⟨by simp; omega,by omega,by simp⟩
  ·have l1:(Y.drop (Y.length-X.length)).length=X.length:=by simp; omega
   have l2:(Y.take (Y.length-X.length)).length=Y.length-X.length:=by simp
   have ey:Y=Y.take (Y.length-X.length)++Y.drop (Y.length-X.length):=(dR _ _).symm;generalize Y.take (Y.length-X.length)=Y1 at l2 ey;generalize Y.drop (Y.length-X.length)=Y2 at l1 ey;subst ey;refine .inr ⟨((Y2.length:Int),(Y1.length:Int),A++(L++(Y2++(Y1++((X++R)++C))))),⟨L,Y2,Y1,X++R,by omega,by simp at l2 hxy hgt; omega,by omega,by simp at h2 ⊢; omega,?_,rfl⟩,by simp at l2 ⊢; omega,fun kn=>?_⟩
   ·rw[←h3]; simp
   ·dsimp only;unfold Ĵ;have hg1:ine (X.length:Int) ((Y1++Y2).length:Int)=true:=bne_iff_ne.2 (by omega);rw[Ø hg1,Í (decide_eq_false (by omega)),rot_L2,Ô (by omega) (by omega),Ô (by simp at h2 ⊢; omega) (by simp at h2 ⊢; omega),Ô (by simp at h2 ⊢; omega) (by simp at h2 ⊢; omega)];have:=vg (A:=A++L) (U:=X) (B:=Y1) (V:=Y2) (C:=R++C) l1 (a:=((A.length+U.length:Nat):Int)-X.length) (b:=((A.length+U.length:Nat):Int)+((Y1++Y2).length:Int)-X.length) (n:=X.length) (by simp; omega) (by simp; omega) rfl (by simp at h2 ⊢; omega) (fun z31=>ck (((Y1++Y2).length:Int)-(X.length:Int)) fun n32=>kn ((X.length:Int),(n32,z31)))
    have e1:(A++L)++(X++(Y1++(Y2++(R++C))))=A++(L++(X++(Y1++Y2++(R++C)))):=by simp
    rw[e1] at this;refine this.trans ?_;rw[Ô (by simp; omega) (by simp; omega)];congr 1;rw[Prod.mk.injEq,Prod.mk.injEq];exact⟨by omega,by simp; omega,by simp⟩
end
def ajl {n:Nat} (h:n≤10000000):IntKind.wrap .i64 (iC .u64 (IntKind.wrap .u64 (n:Int)) (1:Int))=((n / 2:Nat):Int):=by
 have e1:IntKind.wrap .u64 (n:Int)=n:=by
  simp[IntKind.wrap,IntKind.bits,IntKind.signed];omega
 rw[e1]
 have e2:iC .u64 (n:Int) 1=((n / 2:Nat):Int):=by
  unfold iC
  have:(2:Int) ^ (min (Int.toNat 1) IntKind.u64.bits)=2:=by decide
  rw[this,Int.fdiv_eq_ediv_of_nonneg _ (by omega)];omega
 rw[e2];simp[IntKind.wrap,IntKind.bits,IntKind.signed];omega
section
variable {ρ:Type} {m:ŕ}
abbrev age:=List Way→Int→Int→Int→ŕ→Option (List Way×ŕ)
def abm (p:Nat→Prop) [DecidablePred p] {lo:Nat}:∀(n:Nat),(∀c c',lo≤c→c≤c'→c'<lo+n→p c'→p c)→∃s,lo≤s∧s≤lo+n∧(∀c,lo≤c→c<s→p c)∧∀c,s≤c→c<lo+n→¬p c
 |0,_=>⟨lo,cG _,cG _,fun c h1 h2=>by omega,fun c h1 h2=>by omega⟩
 |n+1,hm=>by
  obtain⟨s,h1,h2,h3,h4⟩:=abm p (lo:=lo) n fun c c' a1 a2 a3=>hm c c' a1 a2 (by omega)
  by_cases hp:p (lo+n)
  ·exact⟨lo+n+1,by omega,by omega,fun c q1 q2=>hm c (lo+n) q1 (by omega) (by omega) hp,fun c q1 q2=>by omega⟩
  ·refine⟨s,h1,by omega,h3,fun c q1 q2=>?_⟩
   by_cases e:c=lo+n
   ·rw[e]; exact hp
   ·exact h4 c q1 (by omega)
def ZG {f:Int×Int→(Int×Int→Option ρ)→Option ρ} {K:Int→Option ρ} {lo hi:Nat} (hlh:lo≤hi) (p:Nat→Prop) [DecidablePred p] (mono:∀c c',lo≤c→c≤c'→c'<hi→p c'→p c)
 (step:∀i j:Nat,lo≤i→i<j→j≤hi→∀kn,f ((i:Int),(j:Int)) kn=if p ((i+j) / 2) then kn ((((i+j) / 2+1:Nat):Int),(j:Int)) else kn ((i:Int),(((i+j) / 2:Nat):Int)))
 (stop:∀i:Nat,lo≤i→i≤hi→∀kn,f ((i:Int),(i:Int)) kn=K i) :
 ∃s,lo≤s∧s≤hi∧(∀c,lo≤c→c<s→p c)∧(∀c,s≤c→c<hi→¬p c)∧Ë f ((lo:Int),(hi:Int))=K (s:Nat):=by
 obtain⟨s,h1,h2,h3,h4⟩:=abm p (lo:=lo) (hi-lo) fun c c' a1 a2 a3=>mono c c' a1 a2 (by omega);refine⟨s,h1,by omega,h3,fun c q1 q2=>h4 c q1 (by omega),?_⟩;refine ĝ (fun v:Int×Int=>∃i j:Nat,lo≤i∧i≤s∧s≤j∧j≤hi∧v=((i:Int),(j:Int))) (fun v=>v.2.toNat-v.1.toNat) ?_ ⟨lo,hi,cG _,h1,by omega,cG _,rfl⟩;rintro v ⟨i,j,q1,q2,q3,q4,rfl⟩;rcases dg i j with h|h
 ·by_cases hp:p ((i+j) / 2)
  ·refine .inr ⟨_,⟨(i+j) / 2+1,j,by omega,?_,q3,q4,rfl⟩,by dsimp only; omega,fun kn=>by rw[step i j q1 h q4,if_pos hp]⟩;rcases Nat.lt_or_ge ((i+j) / 2) s with h5|h5
   ·omega
   ·exact absurd hp (h4 _ h5 (by omega))
  ·refine .inr ⟨_,⟨i,(i+j) / 2,q1,q2,?_,by omega,rfl⟩,by dsimp only; omega,fun kn=>by rw[step i j q1 h q4,if_neg hp]⟩;rcases Nat.lt_or_ge ((i+j) / 2) s with h5|h5
   ·exact absurd (h3 _ (by omega) h5) hp
   ·exact h5
 ·obtain rfl:i=j:=by omega
  obtain rfl:i=s:=by omega
  exact .inl fun kn=>stop i q1 q4 kn
def ab6 (rec:age) {P B C:List Way} {x:Way} {c0:Int} (hc:c0=((P.length+B.length+1:Nat):Int)) (hl:P.length+B.length≤1000000) (K:List Way→Option ρ) :
 Ë (fun(v:Int×List Way) kk=>í rec c0 v.1 v.2 (fun a b=>kk (a,b)) K) ((P.length:Int),P++(x::(B++C)))=K (P++(B++x::C)):=by
 subst hc;refine ĝ (fun v:Int×List Way=>∃B1 B2:List Way,B=B1++B2∧v=(((P.length+B1.length:Nat):Int),P++(B1++x::(B2++C)))) (fun v=>(P.length+B.length+1)-v.1.toNat) ?_ ⟨[],B,rfl,rfl⟩;rintro v ⟨B1,B2,hB,rfl⟩
 cases B2 with
 |nil =>
  refine .inl fun kn=>?_;rw[List.append_nil] at hB;subst hB;dsimp only;unfold í;rw[Ô (by omega) (by omega),Í (decide_eq_false (by omega))];rfl
 |cons y B2 =>
  have hlen:B.length=B1.length+B2.length+1:=by rw[hB]; simp; omega
  refine .inr ⟨(((P.length+(B1++[y]).length:Nat):Int),P++((B1++[y])++x::(B2++C))),⟨B1++[y],B2,by rw[hB]; simp,rfl⟩,by simp; omega,fun kn=>?_⟩;dsimp only;unfold í
  have s1:P++(B1++x::(y::B2++C))=(P++B1)++x::(y::(B2++C)):=by simp
  have p1:((P.length+B1.length:Nat):Int)=(P++B1).length:=by simp
  have s2:P++(B1++x::(y::B2++C))=(P++B1++[x])++y::(B2++C):=by simp
  have p2:((P.length+B1.length:Nat):Int)+1=(P++B1++[x]).length:=by simp; omega
  have s3:(P++B1)++y::(y::(B2++C))=(P++B1++[y])++y::(B2++C):=by simp
  have p3:((P.length+B1.length:Nat):Int)+1=(P++B1++[y]).length:=by simp; omega
  rw[Ô (by omega) (by omega),Ø (decide_eq_true (by omega)),Ô (by omega) (by omega),Ô (by omega) (by omega),iY s2 p2,iY s1 p1,iY s1 p1,HM s1 p1,iY s3 p3,HM s3 p3,Ô (by omega) (by omega)];congr 1
  ·simp; omega
  ·simp
def aef (rec:age) {P B C:List Way} {x:Way} {c0:Int} (hc:c0=(P.length:Int)) (hl:P.length+B.length≤1000000) (K:List Way→Option ρ) :
 Ë (fun(v:Int×List Way) kk=>ì rec c0 v.1 v.2 (fun a b=>kk (a,b)) K) (((P.length+B.length:Nat):Int),P++(B++x::C))=K (P++(x::(B++C))):=by
 subst hc;refine ĝ (fun v:Int×List Way=>∃B1 B2:List Way,B=B1++B2∧v=(((P.length+B1.length:Nat):Int),P++(B1++x::(B2++C)))) (fun v=>v.1.toNat) ?_ ⟨B,[],by simp,by simp⟩;rintro v ⟨B1,B2,hB,rfl⟩
 cases hB1:B1.reverse with
 |nil =>
  have:B1=[]:=by simpa using hB1
  subst this;refine .inl fun kn=>?_;dsimp only;unfold ì;rw[Í (decide_eq_false (by simp)),hB];simp
 |cons y B3 =>
  have hA0:B1=B3.reverse++[y]:=by
   have:=congrArg List.reverse hB1;simpa using this
  generalize B3.reverse=A1 at hA0;subst hA0
  have hlen:B.length=A1.length+1+B2.length:=by rw[hB]; simp; omega
  refine .inr ⟨(((P.length+A1.length:Nat):Int),P++(A1++x::(y::B2++C))),⟨A1,y::B2,by rw[hB]; simp,rfl⟩,by simp; omega,fun kn=>?_⟩;dsimp only;unfold ì
  have e0:((P.length+(A1++[y]).length:Nat):Int)-1=((P.length+A1.length:Nat):Int):=by simp; omega
  have s1:P++(A1++[y]++x::(B2++C))=(P++A1)++y::(x::(B2++C)):=by simp
  have p1:((P.length+A1.length:Nat):Int)=(P++A1).length:=by simp
  have s2:P++(A1++[y]++x::(B2++C))=(P++A1++[y])++x::(B2++C):=by simp
  have p2:((P.length+(A1++[y]).length:Nat):Int)=(P++A1++[y]).length:=by simp
  have s3:(P++A1++[y])++y::(B2++C)=(P++A1)++y::(y::(B2++C)):=by simp
  rw[Ø (decide_eq_true (by simp; omega)),e0,Ô (by omega) (by omega),Ô (by omega) (by omega),iY s1 p1,iY s2 p2,iY s2 p2,HM s2 p2,iY s3 p1,HM s3 p1,Ô (by omega) (by omega)];congr 1;simp
end
section
variable {ρ:Type} {m:ŕ}
def symS (rec:age) (mid e b:Int) (k:List Way×ŕ→Option ρ) (l:List Way) (mm:ŕ):Option ρ :=
 ifb (ilt mid e) (ifb (ilt e b) (Ä (rec l mid e b mm) fun r=>k (r.1,r.2)) (k (l,mm))) (k (l,mm))
def symR (rec:age) (a z mid e b:Int) (k:List Way×ŕ→Option ρ) (l:List Way) (mm:ŕ):Option ρ :=
 ifb (ilt a z) (ifb (ilt z mid) (Ä (rec l a z mid mm) fun r=>symS rec mid e b k r.1 r.2) (symS rec mid e b k l mm)) (symS rec mid e b k l mm)
def aiO (rec:age) (l:List Way) (a c b mid n:Int) (mm:ŕ) (k:List Way×ŕ→Option ρ) (z:Int):Option ρ :=
 ck (n-z) fun e=>ifb (ilt z c) (ifb (ilt c e) (Ä (ķ l z c e mm) fun r=>symR rec a z mid e b k r.1 r.2) (symR rec a z mid e b k l mm)) (symR rec a z mid e b k l mm)
def acs (n:Int):Int:=IntKind.wrap .i64 (iC .u64 (IntKind.wrap .u64 n) (1:Int))
def sym_eq (rec:age) (l:List Way) (a c b:Int) (mm:ŕ) (k:List Way×ŕ→Option ρ):Ĥ rec l a c b mm k =
 ck (c-a) fun n1=>ifb (ieq n1 (1:Int)) (Ë (fun(v:Int×Int) kk=>ú rec a l mm.1.1.1 mm.1.1.2 mm.1.2.1 mm.1.2.2.1 mm.1.2.2.2.1 mm.1.2.2.2.2.1 mm.1.2.2.2.2.2 mm.2 v.1 v.2 (fun x y=>kk (x,y)) (fun z7=>Ë (fun(v:Int×List Way) kk=>í rec z7 v.1 v.2 (fun x y=>kk (x,y)) (fun z16=>k (z16,mm))) (a,l))) (c,b))
  (ck (b-c) fun n25=>ifb (ieq n25 (1:Int)) (Ë (fun(v:Int×Int) kk=>ù rec c l mm.1.1.1 mm.1.1.2 mm.1.2.1 mm.1.2.2.1 mm.1.2.2.2.1 mm.1.2.2.2.2.1 mm.1.2.2.2.2.2 mm.2 v.1 v.2 (fun x y=>kk (x,y)) (fun z31=>Ë (fun(v:Int×List Way) kk=>ì rec z31 v.1 v.2 (fun x y=>kk (x,y)) (fun z39=>k (z39,mm))) (c,l))) (a,c))
   (ck (a+b) fun n48=>ck (acs n48+c) fun n49=>ifb (igt c (acs n48))
    (ck (n49-b) fun n50=>ck (n49-(1:Int)) fun n51=>Ë (fun(v:Int×Int) kk=>á rec n51 l mm.1.1.1 mm.1.1.2 mm.1.2.1 mm.1.2.2.1 mm.1.2.2.2.1 mm.1.2.2.2.2.1 mm.1.2.2.2.2.2 mm.2 v.1 v.2 (fun x y=>kk (x,y)) (aiO rec l a c b (acs n48) n49 mm k)) (n50,acs n48))
    (ck (n49-(1:Int)) fun n77=>Ë (fun(v:Int×Int) kk=>á rec n77 l mm.1.1.1 mm.1.1.2 mm.1.2.1 mm.1.2.2.1 mm.1.2.2.2.1 mm.1.2.2.2.2.1 mm.1.2.2.2.2.2 mm.2 v.1 v.2 (fun x y=>kk (x,y)) (aiO rec l a c b (acs n48) n49 mm k)) (a,c)))):=rfl
def RecOk (rec:age) (m:ŕ) (N:Nat):Prop:=∀P U V Q:List Way,1≤U.length→1≤V.length→U.length+V.length≤N→Srt (Ė m) U→Srt (Ė m) V→WOk m (U++V)→P.length+U.length+V.length≤1000000 →
 rec (P++(U++(V++Q))) P.length ((P.length+U.length:Nat):Int) ((P.length+U.length+V.length:Nat):Int) m=some (P++(Ľ (Ė m) (U++V)++Q),m)
def sn {l:List Way} (h:Srt (Ė m) l):Ľ (Ė m) l=l:=wq h (Stb.refl l)
def qz (l:List Way):(Ľ (Ė m) l).length=l.length:=(ł l).length
def agC {rec:age} {N:Nat} (hrec:RecOk rec m N) {P u1 u2 v1 v2 Q:List Way} (s1:u1.length+v1.length≤N) (s2:u2.length+v2.length≤N) (hU:Srt (Ė m) (u1++u2)) (hV:Srt (Ė m) (v1++v2))
 (F1:∀x∈u2,∀y∈v1,Ė m y<Ė m x) (F2:∀x∈u1,∀y∈v2,Ė m x≤Ė m y) (hW:WOk m ((u1++u2)++(v1++v2))) (hl:P.length+u1.length+u2.length+v1.length+v2.length≤1000000)
 {a c b mid n z:Int} (ea:a=P.length) (ec:c=((P.length+u1.length+u2.length:Nat):Int)) (eb:b=((P.length+u1.length+u2.length+v1.length+v2.length:Nat):Int)) (emid:mid=((P.length+u1.length+v1.length:Nat):Int)) (ez:z=((P.length+u1.length:Nat):Int)) (en:n-z=((P.length+u1.length+u2.length+v1.length:Nat):Int)) :
 aiO rec (P++((u1++u2)++((v1++v2)++Q))) a c b mid n m some z=some (P++(Ľ (Ė m) ((u1++u2)++(v1++v2))++Q),m):=by
 obtain⟨hU1,hU2,hU3⟩:=hU.parts;obtain⟨hV1,hV2,hV3⟩:=hV.parts;subst ea ec eb emid ez
 have fin:Ľ (Ė m) ((u1++u2)++(v1++v2))=Ľ (Ė m) (u1++v1)++Ľ (Ė m) (u2++v2):=by
  refine wq ?_ ?_
  ·refine(jt _).append (jt _) fun x hx y hy=>?_;have hx:=(ł _).mem.1 hx;have hy:=(ł _).mem.1 hy
   rcases cM.1 hx with hx|hx<;>rcases cM.1 hy with hy|hy
   ·exact hU3 x hx y hy
   ·exact F2 x hx y hy
   ·have:=F1 y hy x hx; omega
   ·exact hV3 x hx y hy
  ·have q:Stb (Ė m) (u2++v1) (v1++u2):=Stb.swap fun x hx y hy=>by have:=F1 x hx y hy; omega
   have q2:=((Stb.refl (key:=Ė m) u1).append (q.append (Stb.refl v2)))
   have e1:u1++(u2++v1++v2)=u1++u2++(v1++v2):=by simp
   have e2:u1++(v1++u2++v2)=(u1++v1)++(u2++v2):=by simp
   rw[e1,e2] at q2;exact q2.trans ((ł _).append (ł _))
 have lI:(Ľ (Ė m) (u1++v1)).length=u1.length+v1.length:=by rw[qz]; simp
 have hS:symS rec ((P.length+u1.length+v1.length:Nat):Int) ((P.length+u1.length+u2.length+v1.length:Nat):Int) ((P.length+u1.length+u2.length+v1.length+v2.length:Nat):Int) some (P++(Ľ (Ė m) (u1++v1)++(u2++(v2++Q)))) m=some (P++(Ľ (Ė m) ((u1++u2)++(v1++v2))++Q),m):=by
  rw[fin];unfold symS
  by_cases h1:u2=[]
  ·subst h1;rw[Í (decide_eq_false (by simp))];simp only[dS,cQ];rw[sn hV2]
  by_cases h2:v2=[]
  ·subst h2;have q:ilt ((P.length+u1.length+u2.length+v1.length:Nat):Int) ((P.length+u1.length+u2.length+v1.length+([]:List Way).length:Nat):Int)=false:=decide_eq_false (by simp);rw[q,é];simp only[dS,dh,cQ];rw[sn hU2]
   cases ilt ((P.length+u1.length+v1.length:Nat):Int) ((P.length+u1.length+u2.length+v1.length:Nat):Int)<;>rfl
  have k1:1≤u2.length:=d8.2 h1;have k2:1≤v2.length:=d8.2 h2
  have:=hrec (P++Ľ (Ė m) (u1++v1)) u2 v2 Q k1 k2 s2 hU2 hV2 (hW.sub fun x hx=>by
   rcases cM.1 hx with hx|hx<;>simp[hx]) (by rw[cJ,lI]; omega)
  rw[Ø (decide_eq_true (by omega)),Ø (decide_eq_true (by omega))]
  have e1:P++(Ľ (Ė m) (u1++v1)++(u2++(v2++Q)))=(P++Ľ (Ė m) (u1++v1))++(u2++(v2++Q)):=by simp
  rw[e1,show((P.length+u1.length+v1.length:Nat):Int)=((P++Ľ (Ė m) (u1++v1)).length:Int) by rw[cJ,lI]; omega,
   show((P.length+u1.length+u2.length+v1.length:Nat):Int)=(((P++Ľ (Ė m) (u1++v1)).length+u2.length:Nat):Int) by rw[cJ,lI]; omega,
   show((P.length+u1.length+u2.length+v1.length+v2.length:Nat):Int)=(((P++Ľ (Ė m) (u1++v1)).length+u2.length+v2.length:Nat):Int) by rw[cJ,lI]; omega,this,À]
  simp
 have hR:symR rec (P.length:Int) ((P.length+u1.length:Nat):Int) ((P.length+u1.length+v1.length:Nat):Int) ((P.length+u1.length+u2.length+v1.length:Nat):Int) ((P.length+u1.length+u2.length+v1.length+v2.length:Nat):Int) some (P++(u1++(v1++(u2++(v2++Q))))) m=some (P++(Ľ (Ė m) ((u1++u2)++(v1++v2))++Q),m):=by
  unfold symR
  by_cases h1:u1=[]
  ·have q:ilt (P.length:Int) ((P.length+u1.length:Nat):Int)=false:=decide_eq_false (by rw[h1]; simp)
   have e:P++(Ľ (Ė m) (u1++v1)++(u2++(v2++Q)))=P++(u1++(v1++(u2++(v2++Q)))):=by
    subst h1;simp only[dS];rw[sn hV1]
   rw[e] at hS;rw[q,é,hS]
  by_cases h2:v1=[]
  ·have e:P++(Ľ (Ė m) (u1++v1)++(u2++(v2++Q)))=P++(u1++(v1++(u2++(v2++Q)))):=by
    subst h2;simp only[dh,dS];rw[sn hU1]
   rw[e] at hS;have q:ilt ((P.length+u1.length:Nat):Int) ((P.length+u1.length+v1.length:Nat):Int)=false:=decide_eq_false (by rw[h2]; simp);rw[q,é,hS]
   cases ilt (P.length:Int) ((P.length+u1.length:Nat):Int)<;>rfl
  have k1:1≤u1.length:=d8.2 h1;have k2:1≤v1.length:=d8.2 h2;rw[Ø (decide_eq_true (by omega)),Ø (decide_eq_true (by omega))]
  rw[hrec P u1 v1 (u2++(v2++Q)) k1 k2 s1 hU1 hV1 (hW.sub fun x hx=>by
   rcases cM.1 hx with hx|hx<;>simp[hx]) (by omega),À]
  exact hS
 unfold aiO;rw[en,Ô (by omega) (by omega)]
 by_cases h1:u2=[]
 ·have q:ilt ((P.length+u1.length:Nat):Int) ((P.length+u1.length+u2.length:Nat):Int)=false:=decide_eq_false (by rw[h1]; simp)
  have e:P++((u1++u2)++((v1++v2)++Q))=P++(u1++(v1++(u2++(v2++Q)))):=by rw[h1]; simp
  rw[q,é,e,hR]
 by_cases h2:v1=[]
 ·have e:P++((u1++u2)++((v1++v2)++Q))=P++(u1++(v1++(u2++(v2++Q)))):=by rw[h2]; simp
  have q:ilt ((P.length+u1.length+u2.length:Nat):Int) ((P.length+u1.length+u2.length+v1.length:Nat):Int)=false:=decide_eq_false (by rw[h2]; simp);rw[q,é,e,hR]
  cases ilt ((P.length+u1.length:Nat):Int) ((P.length+u1.length+u2.length:Nat):Int)<;>rfl
 have k1:1≤u2.length:=d8.2 h1;have k2:1≤v1.length:=d8.2 h2;rw[Ø (decide_eq_true (by omega)),Ø (decide_eq_true (by omega))];have:=adI (m:=m) (A:=P++u1) (U:=u2) (V:=v1) (C:=v2++Q) k1 k2 (by simp; omega);rw[cJ] at this
 have e1:P++((u1++u2)++((v1++v2)++Q))=(P++u1)++(u2++(v1++(v2++Q))):=by simp
 rw[e1,this,À]
 have e2:(P++u1)++(v1++(u2++(v2++Q)))=P++(u1++(v1++(u2++(v2++Q)))):=by simp
 rw[e2];exact hR
end
section
variable {ρ:Type} {m:ŕ}
def giW (l:List Way) (i:Nat):Way:=(l[i]?).getD []
def F9 {l:List Way} {i:Nat} (h:i<l.length) (K:Way→Option ρ):(ä ((ile (0:Int) (i:Int))&&(ilt (i:Int) (î l))) (ĸ l (Int.toNat (i:Int)) K))=K (giW l i):=by
 rw[ċ (by simp[ile,ilt,î]; omega),cT,i9 (cF h)];simp[giW,cF h]
def JL {i j:Nat} (h:i+j≤10000000):IntKind.wrap .i64 (iC .u64 (IntKind.wrap .u64 ((i:Int)+(j:Int))) (1:Int))=(((i+j) / 2:Nat):Int):=by
 rw[←ajl h]; push_cast; rfl
def KOk (m:ŕ) (x:Way):Prop:=ĵ m x=some (Ė m x)
def Va {x y:Way} (hx:KOk m x) (hy:KOk m y) (X Y:Option ρ):(Ä (jI x y m) fun r=>ifb (!(ilt r (0:Int))) X Y)=if Ė m x≥Ė m y then X else Y:=by
 rw[Ud hx hy,À]
 by_cases h:Ė m x<Ė m y
 ·rw[if_pos h,if_neg (show ¬Ė m x≥Ė m y by omega)]; rfl
 ·rw[if_neg h,if_pos (show Ė m x≥Ė m y by omega)]
  by_cases h2:Ė m y<Ė m x
  ·rw[if_pos h2]; rfl
  ·rw[if_neg h2]; rfl
def aiX (rec:age) {l:List Way} {a i j:Nat} (hij:i<j) (hj:j≤l.length) (ha:a<l.length) (hl:j≤2000000) (wa:KOk m (giW l a)) (wh:KOk m (giW l ((i+j) / 2))) (kn:Int→Int→Option ρ) (k0:Int→Option ρ) :
 ú rec (a:Int) l m.1.1.1 m.1.1.2 m.1.2.1 m.1.2.2.1 m.1.2.2.2.1 m.1.2.2.2.2.1 m.1.2.2.2.2.2 m.2 (i:Int) (j:Int) kn k0=if Ė m (giW l ((i+j) / 2))<Ė m (giW l a) then kn (((i+j) / 2+1:Nat):Int) j else kn i (((i+j) / 2:Nat):Int):=by
 unfold ú;rw[Ø (decide_eq_true (by omega)),Ô (by omega) (by omega),JL (by omega),F9 (by omega),F9 ha];refine(aaL wh wa _ _).trans ?_;rw[Ô (by omega) (by omega)];rfl
def aiW (rec:age) {l:List Way} {c i j:Nat} (hij:i<j) (hj:j≤l.length) (hc:c<l.length) (hl:j≤2000000) (wc:KOk m (giW l c)) (wh:KOk m (giW l ((i+j) / 2))) (kn:Int→Int→Option ρ) (k0:Int→Option ρ) :
 ù rec (c:Int) l m.1.1.1 m.1.1.2 m.1.2.1 m.1.2.2.1 m.1.2.2.2.1 m.1.2.2.2.2.1 m.1.2.2.2.2.2 m.2 (i:Int) (j:Int) kn k0=if Ė m (giW l c)≥Ė m (giW l ((i+j) / 2)) then kn (((i+j) / 2+1:Nat):Int) j else kn i (((i+j) / 2:Nat):Int):=by
 unfold ù;rw[Ø (decide_eq_true (by omega)),Ô (by omega) (by omega),JL (by omega),F9 hc,F9 (by omega)];refine(Va wc wh _ _).trans ?_;rw[Ô (by omega) (by omega)];rfl
def aiV (rec:age) {l:List Way} {p i j:Nat} (hij:i<j) (hj:j≤l.length) (hp:(i+j) / 2≤p) (hp2:p-(i+j) / 2<l.length) (hl:j≤2000000) (hpb:p≤4000000) (wc:KOk m (giW l (p-(i+j) / 2))) (wh:KOk m (giW l ((i+j) / 2))) (kn:Int→Int→Option ρ) (k0:Int→Option ρ) :
 á rec (p:Int) l m.1.1.1 m.1.1.2 m.1.2.1 m.1.2.2.1 m.1.2.2.2.1 m.1.2.2.2.2.1 m.1.2.2.2.2.2 m.2 (i:Int) (j:Int) kn k0=if Ė m (giW l (p-(i+j) / 2))≥Ė m (giW l ((i+j) / 2)) then kn (((i+j) / 2+1:Nat):Int) j else kn i (((i+j) / 2:Nat):Int):=by
 unfold á;rw[Ø (decide_eq_true (by omega)),Ô (by omega) (by omega),JL (by omega),show(p:Int)-(((i+j) / 2:Nat):Int)=((p-(i+j) / 2:Nat):Int) by omega,Ô (by omega) (by omega),F9 hp2,F9 (by omega)];refine(Va wc wh _ _).trans ?_;rw[Ô (by omega) (by omega)];rfl
def rg {α:Type} {l:List α} {n:Nat} {y:α} (h:y∈l.take n):∃j,j<n∧j<l.length∧l[j]?=some y:=by
 obtain⟨j,hj,e⟩:=cS.1 h;simp only[cZ] at hj;refine⟨j,by omega,by omega,?_⟩;rw[eX] at e;rw[cF (by omega),e]
def rh {α:Type} {l:List α} {n:Nat} {y:α} (h:y∈l.drop n):∃j,n≤j∧j<l.length∧l[j]?=some y:=by
 obtain⟨j,hj,e⟩:=cS.1 h;simp only[gC] at hj;refine⟨n+j,by omega,by omega,?_⟩;rw[List.getElem_drop] at e;rw[cF (by omega),e]
def ady {l:List Way} (h:Srt (Ė m) l) {i j:Nat} {x y:Way} (hi:l[i]?=some x) (hj:l[j]?=some y) (hij:i≤j):Ė m x≤Ė m y:=by
 obtain⟨h1,rfl⟩:=cI.1 hi;obtain⟨h2,rfl⟩:=cI.1 hj;rcases gi hij with hlt|rfl
 ·exact dm.1 h i j h1 h2 hlt
 ·exact dP _
def HI:∀(f N:Nat),N≤2 ^ f→RecOk (ģ (f+1)) m N
 |0,N,hN=>fun P U V Q hU hV hn=>by simp at hN; omega
 |f+1,N,hN=>fun P U V Q hU hV hn sU sV hW hl=>by
  have hrec:=HI f (2 ^ f) (cG _)
  have hpow:2 ^ (f+1)=2*2 ^ f:=by rw[Nat.pow_succ]; omega
  show Ĥ (ģ (f+1)) _ _ _ _ m some=_;generalize ģ (f+1)=rec at hrec;obtain⟨l,hle⟩:∃l,l=P++(U++(V++Q)):=⟨_,rfl⟩
  have hll:P.length+U.length+V.length≤l.length:=by rw[hle]; simp; omega
  rw[sym_eq]
  -- what lies where
  have gU:∀i x,U[i]?=some x→giW l (P.length+i)=x:=fun i x hx=>by
   have hi:=(List.getElem?_eq_some_iff.1 hx).1;unfold giW;rw[hle,List.getElem?_append_right (by omega),List.getElem?_append_left (by omega),show P.length+i-P.length=i by omega,hx];rfl
  have gV:∀i x,V[i]?=some x→giW l (P.length+U.length+i)=x:=fun i x hx=>by
   have hi:=(List.getElem?_eq_some_iff.1 hx).1;unfold giW;rw[hle,List.getElem?_append_right (by omega),List.getElem?_append_right (by omega),List.getElem?_append_left (by omega),show P.length+U.length+i-P.length-U.length=i by omega,hx];rfl
  have kU:∀c c',P.length≤c→c≤c'→c'<P.length+U.length→Ė m (giW l c)≤Ė m (giW l c'):=fun c c' h1 h2 h3=>by
   have q1:U[c-P.length]?=some U[c-P.length]:=cF (by omega);have q2:U[c'-P.length]?=some U[c'-P.length]:=cF (by omega);have e1:=gU _ _ q1;have e2:=gU _ _ q2;rw[show P.length+(c-P.length)=c by omega] at e1;rw[show P.length+(c'-P.length)=c' by omega] at e2;rw[e1,e2];exact ady sU q1 q2 (by omega)
  have kV:∀c c',P.length+U.length≤c→c≤c'→c'<P.length+U.length+V.length→Ė m (giW l c)≤Ė m (giW l c'):=fun c c' h1 h2 h3=>by
   have q1:V[c-(P.length+U.length)]?=some V[c-(P.length+U.length)]:=cF (by omega);have q2:V[c'-(P.length+U.length)]?=some V[c'-(P.length+U.length)]:=cF (by omega);have e1:=gV _ _ q1;have e2:=gV _ _ q2;rw[show P.length+U.length+(c-(P.length+U.length))=c by omega] at e1;rw[show P.length+U.length+(c'-(P.length+U.length))=c' by omega] at e2;rw[e1,e2];exact ady sV q1 q2 (by omega)
  have kW:∀c,P.length≤c→c<P.length+U.length+V.length→KOk m (giW l c):=fun c h1 h2=>by
   rcases dg c (P.length+U.length) with h3|h3
   ·have q1:U[c-P.length]?=some U[c-P.length]:=cF (by omega);have e1:=gU _ _ q1;rw[show P.length+(c-P.length)=c by omega] at e1;rw[e1];exact hW _ (dD _ (fe _))
   ·have q1:V[c-(P.length+U.length)]?=some V[c-(P.length+U.length)]:=cF (by omega);have e1:=gV _ _ q1;rw[show P.length+U.length+(c-(P.length+U.length))=c by omega] at e1;rw[e1];exact hW _ (dC _ (fe _))
  have e0:((P.length+U.length:Nat):Int)-(P.length:Int)=U.length:=by omega
  have e1:((P.length+U.length+V.length:Nat):Int)-((P.length+U.length:Nat):Int)=V.length:=by omega
  rw[e0,e1,Ô (by omega) (by omega),Ô (by omega) (by omega),←hle];have half:acs ((P.length:Int)+((P.length+U.length+V.length:Nat):Int))=(((P.length+(P.length+U.length+V.length)) / 2:Nat):Int):=JL (by omega)
  by_cases hU1:U.length=1
  ·rw[Ø (beq_iff_eq.2 (by rw[hU1]; rfl))]
   obtain⟨x,hx⟩:∃x,U=[x]:=by
    cases U with
    |nil=>simp at hU1
    |cons x t=>cases t with
     |nil=>exact⟨x,rfl⟩
     |cons y t=>simp at hU1
   have gx:giW l P.length=x:=by
    have:=gU 0 x (by rw[hx]; rfl);exact this
   obtain⟨s,s1,s2,s3,s4,s5⟩:=ZG (f:=fun(v:Int×Int) kk=>ú rec (P.length:Int) l m.1.1.1 m.1.1.2 m.1.2.1 m.1.2.2.1 m.1.2.2.2.1 m.1.2.2.2.2.1 m.1.2.2.2.2.2 m.2 v.1 v.2 (fun x y=>kk (x,y)) (fun z7=>Ë (fun(v:Int×List Way) kk=>í rec z7 v.1 v.2 (fun x y=>kk (x,y)) (fun z16=>some (z16,m))) ((P.length:Int),l)))
    (K:=fun z7=>Ë (fun(v:Int×List Way) kk=>í rec z7 v.1 v.2 (fun x y=>kk (x,y)) (fun z16=>some (z16,m))) ((P.length:Int),l)) (lo:=P.length+U.length) (hi:=P.length+U.length+V.length) (by omega)
    (fun h=>Ė m (giW l h)<Ė m (giW l P.length)) (fun c c' q1 q2 q3 q4=>by have:=kV c c' q1 q2 q3; omega)
    (fun i j q1 q2 q3 kn=>aiX rec q2 (by omega) (by omega) (by omega) (kW _ (cG _) (by omega)) (kW _ (by omega) (by omega)) _ _)
    (fun i q1 q2 kn=>by
     dsimp only;unfold ú
     rw[Í (decide_eq_false (by omega))])
   refine s5.trans ?_
   have hk:s-(P.length+U.length)≤V.length:=by omega
   obtain⟨k,hkk⟩:∃k,k=s-(P.length+U.length):=⟨_,rfl⟩;rw[←hkk] at hk
   have lt:(V.take k).length=k:=by simp; omega
   have hB:∀y∈V.take k,Ė m y<Ė m x:=fun y hy=>by
    obtain⟨j,j1,j2,j3⟩:=rg hy;have:=s3 (P.length+U.length+j) (by omega) (by omega);rw[gV j y j3,gx] at this;exact this
   have hD:∀y∈V.drop k,Ė m x≤Ė m y:=fun y hy=>by
    obtain⟨j,j1,j2,j3⟩:=rh hy;have:=s4 (P.length+U.length+j) (by omega) (by omega);rw[gV j y j3,gx] at this;omega
   have hv:V=V.take k++V.drop k:=(dR _ _).symm
   have fin:Ľ (Ė m) (U++V)=V.take k++x::V.drop k:=by
    rw[hv] at sV;obtain⟨v1,v2,v3⟩:=sV.parts;refine wq ?_ ?_
    ·refine v1.append (List.Pairwise.cons hD v2) fun y hy z hz=>?_;rcases cN.1 hz with rfl|hz
     ·have:=hB y hy; omega
     ·exact v3 y hy z hz
    ·have:=(Stb.swap (key:=Ė m) (u:=[x]) (v:=V.take k) (fun a ha b hb=>by simp at ha; subst ha; have:=hB b hb; omega)).append (Stb.refl (V.drop k));rw[hx]
     have e:[x]++V.take k++V.drop k=[x]++V:=by rw[cQ,←hv]
     rw[e] at this;simpa using this
   have hs:(s:Int)=((P.length+(V.take k).length+1:Nat):Int):=by rw[lt]; omega
   have:=ab6 rec (P:=P) (B:=V.take k) (C:=V.drop k++Q) (x:=x) hs (by rw[lt]; omega) (fun z16=>some (z16,m))
   have e2:l=P++(x::(V.take k++(V.drop k++Q))):=by
    rw[hle,hx,←cQ (V.take k),←hv];rfl
   rw[←e2] at this;refine this.trans ?_;rw[fin];simp
  rw[Í (beq_eq_false_iff_ne.2 (fun h=>hU1 (by exact_mod_cast h)))]
  by_cases hV1:V.length=1
  ·rw[Ø (beq_iff_eq.2 (by rw[hV1]; rfl))]
   obtain⟨x,hx⟩:∃x,V=[x]:=by
    cases V with
    |nil=>simp at hV1
    |cons x t=>cases t with
     |nil=>exact⟨x,rfl⟩
     |cons y t=>simp at hV1
   have gx:giW l (P.length+U.length)=x:=by
    have:=gV 0 x (by rw[hx]; rfl);exact this
   obtain⟨s,s1,s2,s3,s4,s5⟩:=ZG (f:=fun(v:Int×Int) kk=>ù rec ((P.length+U.length:Nat):Int) l m.1.1.1 m.1.1.2 m.1.2.1 m.1.2.2.1 m.1.2.2.2.1 m.1.2.2.2.2.1 m.1.2.2.2.2.2 m.2 v.1 v.2 (fun x y=>kk (x,y)) (fun z7=>Ë (fun(v:Int×List Way) kk=>ì rec z7 v.1 v.2 (fun x y=>kk (x,y)) (fun z16=>some (z16,m))) (((P.length+U.length:Nat):Int),l)))
    (K:=fun z7=>Ë (fun(v:Int×List Way) kk=>ì rec z7 v.1 v.2 (fun x y=>kk (x,y)) (fun z16=>some (z16,m))) (((P.length+U.length:Nat):Int),l)) (lo:=P.length) (hi:=P.length+U.length) (by omega)
    (fun h=>Ė m (giW l (P.length+U.length))≥Ė m (giW l h)) (fun c c' q1 q2 q3 q4=>by have:=kU c c' q1 q2 q3; omega)
    (fun i j q1 q2 q3 kn=>aiW rec q2 (by omega) (by omega) (by omega) (kW _ (by omega) (by omega)) (kW _ (by omega) (by omega)) _ _)
    (fun i q1 q2 kn=>by
     dsimp only;unfold ù
     rw[Í (decide_eq_false (by omega))])
   refine s5.trans ?_;obtain⟨k,hkk⟩:∃k,k=s-P.length:=⟨_,rfl⟩
   have hk:k≤U.length:=by omega
   have lt:(U.take k).length=k:=by simp; omega
   have hB:∀y∈U.take k,Ė m y≤Ė m x:=fun y hy=>by
    obtain⟨j,j1,j2,j3⟩:=rg hy;have:=s3 (P.length+j) (by omega) (by omega);rw[gU j y j3,gx] at this;exact this
   have hD:∀y∈U.drop k,Ė m x<Ė m y:=fun y hy=>by
    obtain⟨j,j1,j2,j3⟩:=rh hy;have:=s4 (P.length+j) (by omega) (by omega);rw[gU j y j3,gx] at this;omega
   have hv:U=U.take k++U.drop k:=(dR _ _).symm
   have fin:Ľ (Ė m) (U++V)=U.take k++x::U.drop k:=by
    rw[hv] at sU;obtain⟨v1,v2,v3⟩:=sU.parts;refine wq ?_ ?_
    ·refine v1.append (List.Pairwise.cons (fun y hy=>by have:=hD y hy; omega) v2) fun y hy z hz=>?_;rcases cN.1 hz with rfl|hz
     ·exact hB y hy
     ·exact v3 y hy z hz
    ·have:=(Stb.refl (key:=Ė m) (U.take k)).append (Stb.swap (key:=Ė m) (u:=U.drop k) (v:=[x]) (fun a ha b hb=>by simp at hb; subst hb; have:=hD a ha; omega));rw[hx]
     have e:U.take k++(U.drop k++[x])=U++[x]:=by rw[←cQ,←hv]
     rw[e] at this;simpa using this
   have hs:(s:Int)=((P++U.take k).length:Int):=by rw[cJ,lt]; omega
   have ld:(U.drop k).length=U.length-k:=by simp
   have:=aef rec (P:=P++U.take k) (B:=U.drop k) (C:=Q) (x:=x) hs (by rw[cJ,lt,ld]; omega) (fun z16=>some (z16,m))
   have e2:l=(P++U.take k)++(U.drop k++x::Q):=by
    rw[hle,hx,cQ,←cQ (U.take k),←hv];rfl
   rw[←e2,show(((P++U.take k).length+(U.drop k).length:Nat):Int)=((P.length+U.length:Nat):Int) by rw[cJ,lt,ld]; omega] at this;refine this.trans ?_;rw[fin];simp
  rw[Í (beq_eq_false_iff_ne.2 (fun h=>hV1 (by exact_mod_cast h))),Ô (by omega) (by omega),half];obtain⟨mid,hmid⟩:∃mid,mid=(P.length+(P.length+U.length+V.length)) / 2:=⟨_,rfl⟩;rw[←hmid,Ô (by omega) (by omega)]
  have hm1:P.length≤mid:=by omega
  have hm2:mid≤P.length+U.length+V.length:=by omega
  -- the search, and what is behind it
  have gen:∀lo hi:Nat,P.length≤lo→lo≤hi→hi≤P.length+U.length→hi≤mid→mid+(P.length+U.length)≤lo+(P.length+U.length+V.length)→(hi=P.length+U.length∨hi=mid)→(lo=P.length∨lo+(P.length+U.length+V.length)=mid+(P.length+U.length)) →
   Ë (fun(v:Int×Int) kk=>á rec (((mid+(P.length+U.length)-1:Nat)):Int) l m.1.1.1 m.1.1.2 m.1.2.1 m.1.2.2.1 m.1.2.2.2.1 m.1.2.2.2.2.1 m.1.2.2.2.2.2 m.2 v.1 v.2 (fun x y=>kk (x,y)) (aiO rec l (P.length:Int) ((P.length+U.length:Nat):Int) ((P.length+U.length+V.length:Nat):Int) (mid:Int) ((mid:Int)+((P.length+U.length:Nat):Int)) m some)) ((lo:Int),(hi:Int))=some (P++(Ľ (Ė m) (U++V)++Q),m):=by
   intro lo hi h1 h2 h3 h4 h5 h6 h7
   have hmu:mid<P.length+U.length+V.length:=by omega
   obtain⟨s,s1,s2,s3,s4,s5⟩:=ZG (f:=fun(v:Int×Int) kk=>á rec (((mid+(P.length+U.length)-1:Nat)):Int) l m.1.1.1 m.1.1.2 m.1.2.1 m.1.2.2.1 m.1.2.2.2.1 m.1.2.2.2.2.1 m.1.2.2.2.2.2 m.2 v.1 v.2 (fun x y=>kk (x,y)) (aiO rec l (P.length:Int) ((P.length+U.length:Nat):Int) ((P.length+U.length+V.length:Nat):Int) (mid:Int) ((mid:Int)+((P.length+U.length:Nat):Int)) m some))
    (K:=aiO rec l (P.length:Int) ((P.length+U.length:Nat):Int) ((P.length+U.length+V.length:Nat):Int) (mid:Int) ((mid:Int)+((P.length+U.length:Nat):Int)) m some) (lo:=lo) (hi:=hi) h2
    (fun h=>Ė m (giW l (mid+(P.length+U.length)-1-h))≥Ė m (giW l h)) (fun c c' q1 q2 q3 q4=>by
     have a1:=kU c c' (by omega) q2 (by omega);have a2:=kV (mid+(P.length+U.length)-1-c') (mid+(P.length+U.length)-1-c) (by omega) (by omega) (by omega)
     omega)
    (fun i j q1 q2 q3 kn=>aiV rec q2 (by omega) (by omega) (by omega) (by omega) (by omega) (kW _ (by omega) (by omega)) (kW _ (by omega) (by omega)) _ _)
    (fun i q1 q2 kn=>by
     dsimp only;unfold á
     rw[Í (decide_eq_false (by omega))])
   refine s5.trans ?_;obtain⟨e,he⟩:∃e,e=mid+(P.length+U.length)-s:=⟨_,rfl⟩
   have lu1:(U.take (s-P.length)).length=s-P.length:=by simp; omega
   have lu2:(U.drop (s-P.length)).length=P.length+U.length-s:=by simp; omega
   have lv1:(V.take (e-(P.length+U.length))).length=e-(P.length+U.length):=by simp; omega
   have lv2:(V.drop (e-(P.length+U.length))).length=P.length+U.length+V.length-e:=by simp; omega
   have hu:U=U.take (s-P.length)++U.drop (s-P.length):=(dR _ _).symm;have hv:V=V.take (e-(P.length+U.length))++V.drop (e-(P.length+U.length)):=(dR _ _).symm
   have F1:∀x∈U.drop (s-P.length),∀y∈V.take (e-(P.length+U.length)),Ė m y<Ė m x:=fun x hx y hy=>by
    obtain⟨i,i1,i2,i3⟩:=rh hx;obtain⟨j,j1,j2,j3⟩:=rg hy;have q:=s4 s (cG _) (by omega);rw[show mid+(P.length+U.length)-1-s=e-1 by omega] at q;have a1:=kV (P.length+U.length+j) (e-1) (by omega) (by omega) (by omega);have a2:=kU s (P.length+i) (by omega) (by omega) (by omega);rw[gV j y j3] at a1;rw[gU i x i3] at a2;omega
   have F2:∀x∈U.take (s-P.length),∀y∈V.drop (e-(P.length+U.length)),Ė m x≤Ė m y:=fun x hx y hy=>by
    obtain⟨i,i1,i2,i3⟩:=rg hx;obtain⟨j,j1,j2,j3⟩:=rh hy;have q:=s3 (s-1) (by omega) (by omega);rw[show mid+(P.length+U.length)-1-(s-1)=e by omega] at q;have a1:=kV e (P.length+U.length+j) (by omega) (by omega) (by omega);have a2:=kU (P.length+i) (s-1) (by omega) (by omega) (by omega);rw[gV j y j3] at a1;rw[gU i x i3] at a2;omega
   have hW':WOk m ((U.take (s-P.length)++U.drop (s-P.length))++(V.take (e-(P.length+U.length))++V.drop (e-(P.length+U.length)))):=by rw[←hu,←hv]; exact hW
   have:=agC hrec (P:=P) (u1:=U.take (s-P.length)) (u2:=U.drop (s-P.length)) (v1:=V.take (e-(P.length+U.length))) (v2:=V.drop (e-(P.length+U.length))) (Q:=Q) (by omega) (by omega) (by rw[←hu]; exact sU) (by rw[←hv]; exact sV) F1 F2 hW' (by omega)
    (a:=(P.length:Int)) (c:=((P.length+U.length:Nat):Int)) (b:=((P.length+U.length+V.length:Nat):Int)) (mid:=(mid:Int)) (n:=(mid:Int)+((P.length+U.length:Nat):Int)) (z:=(s:Int)) rfl (by omega) (by omega) (by omega) (by omega) (by omega)
   rw[←hu,←hv,←hle] at this;exact this
  by_cases hgt:mid<P.length+U.length
  ·rw[Ø (decide_eq_true (by omega)),Ô (by omega) (by omega),Ô (by omega) (by omega)];have:=gen (mid+(P.length+U.length)-(P.length+U.length+V.length)) mid (by omega) (by omega) (by omega) (cG _) (by omega) (.inr rfl) (.inr (by omega));rw[show((mid+(P.length+U.length)-1:Nat):Int)=(mid:Int)+((P.length+U.length:Nat):Int)-1 by omega,show((mid+(P.length+U.length)-(P.length+U.length+V.length):Nat):Int)=(mid:Int)+((P.length+U.length:Nat):Int)-((P.length+U.length+V.length:Nat):Int) by omega] at this;exact this
  ·rw[Í (decide_eq_false (by omega)),Ô (by omega) (by omega)];have:=gen P.length (P.length+U.length) (cG _) (by omega) (cG _) (by omega) (by omega) (.inl rfl) (.inl rfl);rw[show((mid+(P.length+U.length)-1:Nat):Int)=(mid:Int)+((P.length+U.length:Nat):Int)-1 by omega] at this;exact this
def JZ {P U V Q:List Way} (hU:1≤U.length) (hV:1≤V.length) (sU:Srt (Ė m) U) (sV:Srt (Ė m) V) (hW:WOk m (U++V)) (hl:P.length+U.length+V.length≤1000000) :
 Ĕ (P++(U++(V++Q))) P.length ((P.length+U.length:Nat):Int) ((P.length+U.length+V.length:Nat):Int) m=some (P++(Ľ (Ė m) (U++V)++Q),m) :=
 HI 99 1000000 (by decide) P U V Q hU hV (by omega) sU sV hW hl
end
section
variable {ρ:Type} {m:ŕ}
inductive Chs (m:ŕ) (bs:Nat):List Way→Prop
 |last {l:List Way}:l.length≤bs→Srt (Ė m) l→Chs m bs l
 |cons {u r:List Way}:u.length=bs→Srt (Ė m) u→Chs m bs r→Chs m bs (u++r)
def Chs.split {bs:Nat} {l:List Way} (h:Chs m bs l) (hl:bs<l.length):∃u r,l=u++r∧u.length=bs∧Srt (Ė m) u∧Chs m bs r:=by
 cases h with
 |last h1 h2=>omega
 | @cons u r h1 h2 h3=>exact⟨u,r,rfl,h1,h2,h3⟩
def Chs.srt {bs:Nat} {l:List Way} (h:Chs m bs l) (hl:l.length≤bs):Srt (Ė m) l:=by
 cases h with
 |last h1 h2=>exact h2
 | @cons u r h1 h2 h3 =>
  have:r=[]:=by
   rw[cJ] at hl;exact cX.1 (by omega)
  rw[this,dh];exact h2
def csR (m:ŕ) (bs:Nat):Nat→List Way→List Way
 |0,l=>l
 |f+1,l=>if bs≤l.length then Ľ (Ė m) (l.take bs)++csR m bs f (l.drop bs) else Ľ (Ė m) l
def mpR (m:ŕ) (bs:Nat):Nat→List Way→List Way
 |0,l=>l
 |f+1,l=>if 2*bs≤l.length then Ľ (Ė m) (l.take (2*bs))++mpR m bs f (l.drop (2*bs)) else if bs<l.length then Ľ (Ė m) l else l
def aiq {bs:Nat} (hb:1≤bs):∀(f:Nat) (l:List Way),l.length<f→Chs m bs (csR m bs f l)∧Stb (Ė m) l (csR m bs f l)
 |0,_,h=>by omega
 |f+1,l,h=>by
  unfold csR
  by_cases hl:bs≤l.length
  ·rw[if_pos hl];obtain⟨h1,h2⟩:=aiq hb f (l.drop bs) (by simp; omega);refine⟨.cons (by rw[qz]; simp; omega) (jt _) h1,?_⟩;have:=(ł (key:=Ė m) (l.take bs)).append h2
   rwa [dR] at this
  ·rw[if_neg hl];exact⟨.last (by rw[qz]; omega) (jt _),ł _⟩
def aie {bs:Nat} (hb:1≤bs):∀(f:Nat) (l:List Way),l.length<f→Chs m bs l→Chs m (2*bs) (mpR m bs f l)∧Stb (Ė m) l (mpR m bs f l)
 |0,_,h,_=>by omega
 |f+1,l,h,hc=>by
  unfold mpR
  by_cases hl:2*bs≤l.length
  ·rw[if_pos hl]
   have hd:Chs m bs (l.drop (2*bs)):=by
    obtain⟨u,r,rfl,h1,_,h2⟩:=hc.split (by omega)
    have hr:bs≤r.length:=by rw[cJ] at hl; omega
    have e:(u++r).drop (2*bs)=r.drop bs:=by
     rw[List.drop_append,gk (by omega),dS];congr 1; omega
    rw[e];rcases gi hr with h3|h3
    ·obtain⟨u2,r2,rfl,h4,_,h5⟩:=h2.split h3;rw[List.drop_append,gk (by omega),dS,h4,gZ,gO];exact h5
    ·rw[gk (by omega)];exact .last (by simp) List.Pairwise.nil
   obtain⟨h1,h2⟩:=aie hb f (l.drop (2*bs)) (by simp; omega) hd;refine⟨.cons (by rw[qz]; simp; omega) (jt _) h1,?_⟩;have:=(ł (key:=Ė m) (l.take (2*bs))).append h2
   rwa [dR] at this
  ·rw[if_neg hl]
   by_cases h2:bs<l.length
   ·rw[if_pos h2];exact⟨.last (by rw[qz]; omega) (jt _),ł _⟩
   ·rw[if_neg h2];exact⟨.last (by omega) (hc.srt (by omega)),Stb.refl _⟩
abbrev StT:=Int×Int×List Way×Int×Int×List (Val Ö)×List (Val Ã)×List (Val iy)×List (Val Ù)×List (Val Ã)×List (Val ŋ)
def stM (a b:Int) (l:List Way) (m:ŕ):StT:=(a,b,l,m.1.1.1,m.1.1.2,m.1.2.1,m.1.2.2.1,m.1.2.2.2.1,m.1.2.2.2.2.1,m.1.2.2.2.2.2,m.2)
def WOk.stb {l s:List Way} (h:WOk m l) (hs:Stb (Ė m) l s):WOk m s:=fun x hx=>h x (hs.mem.1 hx)
def aiS {xs:List Way} (hW:WOk m xs) (hn:xs.length≤100000) (K:List Way×ŕ→Option ρ) :
 Ë (fun(v:StT) kk=>ik (xs.length:Int) (20:Int) v.1 v.2.1 v.2.2.1 v.2.2.2.1 v.2.2.2.2.1 v.2.2.2.2.2.1 v.2.2.2.2.2.2.1 v.2.2.2.2.2.2.2.1 v.2.2.2.2.2.2.2.2.1 v.2.2.2.2.2.2.2.2.2.1 v.2.2.2.2.2.2.2.2.2.2 (fun u42 u43 u44 u45 u46 u47 u48 u49 u50 u51 u52=>kk (u42,u43,u44,u45,u46,u47,u48,u49,u50,u51,u52))
  (fun z3=>Ä (æ z3.2.1 z3.1 (xs.length:Int) (((z3.2.2.1,z3.2.2.2.1),z3.2.2.2.2.1,z3.2.2.2.2.2.1,z3.2.2.2.2.2.2.1,z3.2.2.2.2.2.2.2.1,z3.2.2.2.2.2.2.2.2.1),z3.2.2.2.2.2.2.2.2.2)) fun r4=>K r4)) (stM 0 20 xs m)=K (csR m 20 (xs.length+1) xs,m):=by
 refine ĝ (fun v:StT=>∃(A R:List Way) (f:Nat),v=stM (A.length:Int) ((A.length+20:Nat):Int) (A++R) m∧A++csR m 20 f R=csR m 20 (xs.length+1) xs∧R.length<f∧A.length+R.length=xs.length∧WOk m R) (fun v=>(xs.length+100)-v.1.toNat) ?_ ⟨[],xs,xs.length+1,rfl,rfl,by omega,by simp,hW⟩;rintro v ⟨A,R,f,rfl,hR,hf,hl,hWR⟩;obtain⟨f,rfl⟩:∃g,f=g+1:=⟨f-1,by omega⟩
 have e0:csR m 20 (f+1) R=if 20≤R.length then Ľ (Ė m) (R.take 20)++csR m 20 f (R.drop 20) else Ľ (Ė m) R:=rfl
 rw[e0] at hR
 by_cases h:20≤R.length
 ·have lt:(R.take 20).length=20:=by simp; omega
  have li:(Ľ (Ė m) (R.take 20)).length=20:=by rw[qz,lt]
  refine .inr ⟨stM (((A++Ľ (Ė m) (R.take 20)).length:Nat):Int) (((A++Ľ (Ė m) (R.take 20)).length+20:Nat):Int) ((A++Ľ (Ė m) (R.take 20))++R.drop 20) m,⟨_,_,f,rfl,?_,by simp; omega,by rw[cJ,li]; simp; omega,hWR.sub fun x hx=>List.mem_of_mem_drop hx⟩,by simp only[stM,cJ,li]; omega,fun kn=>?_⟩
  ·rw[if_pos h] at hR;rw[cQ];exact hR
  ·show ifb (ile ((A.length+20:Nat):Int) (xs.length:Int)) (Ä (æ (A++R) (A.length:Int) ((A.length+20:Nat):Int) m) fun r1=>ck (((A.length+20:Nat):Int)+(20:Int)) fun n2=>kn (stM ((A.length+20:Nat):Int) n2 r1.1 r1.2)) _=_;have:=Ih (m:=m) (P:=A) (M:=R.take 20) (Q:=R.drop 20) (hWR.sub fun x hx=>fX hx) (by omega);rw[dR,lt] at this;rw[Ø (decide_eq_true (by omega)),this,À,Ô (by omega) (by omega)];congr 1;rw[cJ,li,cQ];rfl
 ·refine .inl fun kn=>?_;show ifb (ile ((A.length+20:Nat):Int) (xs.length:Int)) _ (Ä (æ (A++R) (A.length:Int) (xs.length:Int) m) fun r4=>K r4)=_;have:=Ih (m:=m) (P:=A) (M:=R) (Q:=[]) hWR (by omega);rw[dh,hl] at this;rw[Í (decide_eq_false (by omega)),this,À];rw[if_neg h] at hR;rw[←hR,dh]
def aiR {xs:List Way} {bs:Nat} (hb:1≤bs) (hb2:bs≤200000) (hc:Chs m bs xs) (hW:WOk m xs) (hn:xs.length≤100000) (K:List Way×ŕ→Option ρ) :
 Ë (fun(v:StT) kk=>ii (xs.length:Int) (bs:Int) v.1 v.2.1 v.2.2.1 v.2.2.2.1 v.2.2.2.2.1 v.2.2.2.2.2.1 v.2.2.2.2.2.2.1 v.2.2.2.2.2.2.2.1 v.2.2.2.2.2.2.2.2.1 v.2.2.2.2.2.2.2.2.2.1 v.2.2.2.2.2.2.2.2.2.2 (fun u16 u17 u18 u19 u20 u21 u22 u23 u24 u25 u26=>kk (u16,u17,u18,u19,u20,u21,u22,u23,u24,u25,u26))
  (fun z10=>ck (z10.1+(bs:Int)) fun n11=>ifb (ilt n11 (xs.length:Int)) (Ä (Ĕ z10.2.1 z10.1 n11 (xs.length:Int) (((z10.2.2.1,z10.2.2.2.1),z10.2.2.2.2.1,z10.2.2.2.2.2.1,z10.2.2.2.2.2.2.1,z10.2.2.2.2.2.2.2.1,z10.2.2.2.2.2.2.2.2.1),z10.2.2.2.2.2.2.2.2.2)) fun r12=>K r12) (K (z10.2.1,(((z10.2.2.1,z10.2.2.2.1),z10.2.2.2.2.1,z10.2.2.2.2.2.1,z10.2.2.2.2.2.2.1,z10.2.2.2.2.2.2.2.1,z10.2.2.2.2.2.2.2.2.1),z10.2.2.2.2.2.2.2.2.2))))) (stM 0 ((2*bs:Nat):Int) xs m)=K (mpR m bs (xs.length+1) xs,m):=by
 refine ĝ (fun v:StT=>∃(A R:List Way) (f:Nat),v=stM (A.length:Int) ((A.length+2*bs:Nat):Int) (A++R) m∧A++mpR m bs f R=mpR m bs (xs.length+1) xs∧R.length<f∧A.length+R.length=xs.length∧WOk m R∧Chs m bs R) (fun v=>(xs.length+1000000)-v.1.toNat) ?_ ⟨[],xs,xs.length+1,by simp[stM],rfl,by omega,by simp,hW,hc⟩;rintro v ⟨A,R,f,rfl,hR,hf,hl,hWR,hcR⟩;obtain⟨f,rfl⟩:∃g,f=g+1:=⟨f-1,by omega⟩
 have e0:mpR m bs (f+1) R=if 2*bs≤R.length then Ľ (Ė m) (R.take (2*bs))++mpR m bs f (R.drop (2*bs)) else if bs<R.length then Ľ (Ė m) R else R:=rfl
 rw[e0] at hR
 by_cases h:2*bs≤R.length
 ·obtain⟨u,r,rfl,h1,h2,h3⟩:=hcR.split (by omega)
  have hr:bs≤r.length:=by rw[cJ] at h; omega
  -- the second block
  obtain⟨u2,r2,rfl,h4,h5,h6⟩:∃u2 r2,r=u2++r2∧u2.length=bs∧Srt (Ė m) u2∧Chs m bs r2:=by
   rcases gi hr with q|q
   ·exact h3.split q
   ·exact⟨r,[],by simp,q.symm,h3.srt (by omega),.last (by simp) List.Pairwise.nil⟩
  have e1:(u++(u2++r2)).take (2*bs)=u++u2:=by
   rw[←cQ,fc (by simp; omega),dU (by simp; omega)]
  have e2:(u++(u2++r2)).drop (2*bs)=r2:=by
   rw[←cQ,List.drop_append,gk (by simp; omega),dS];rw[show 2*bs-(u++u2).length=0 by simp; omega];rfl
  have li:(Ľ (Ė m) (u++u2)).length=2*bs:=by rw[qz]; simp; omega
  rw[if_pos h,e1,e2] at hR;refine .inr ⟨stM (((A++Ľ (Ė m) (u++u2)).length:Nat):Int) (((A++Ľ (Ė m) (u++u2)).length+2*bs:Nat):Int) ((A++Ľ (Ė m) (u++u2))++r2) m,⟨_,_,f,rfl,by rw[cQ]; exact hR,by simp at hf; omega,by rw[cJ,li]; simp at hl; omega,hWR.sub fun x hx=>by simp[hx],h6⟩,by simp only[stM,cJ,li]; omega,fun kn=>?_⟩;show ifb (ile ((A.length+2*bs:Nat):Int) (xs.length:Int)) (ck ((A.length:Int)+(bs:Int)) fun n6=>Ä (Ĕ (A++(u++(u2++r2))) (A.length:Int) n6 ((A.length+2*bs:Nat):Int) m) fun r7=>ck ((2:Int)*(bs:Int)) fun n8=>ck (((A.length+2*bs:Nat):Int)+n8) fun n9=>kn (stM ((A.length+2*bs:Nat):Int) n9 r7.1 r7.2)) _=_
  have:=JZ (m:=m) (P:=A) (U:=u) (V:=u2) (Q:=r2) (by omega) (by omega) h2 h5 (hWR.sub fun x hx=>by rcases cM.1 hx with hx|hx<;>simp[hx]) (by omega)
  rw[h1,h4] at this;rw[List.length_append,List.length_append] at hl;rw[Ø (decide_eq_true (by omega)),Ô (by omega) (by omega),show(A.length:Int)+(bs:Int)=((A.length+bs:Nat):Int) by omega,show((A.length+2*bs:Nat):Int)=((A.length+bs+bs:Nat):Int) by omega,this,À,Ô (by omega) (by omega),Ô (by omega) (by omega)];congr 1;unfold stM;rw[List.length_append,li,List.append_assoc];refine Prod.ext (by dsimp only; omega) (Prod.ext (by dsimp only; omega) rfl)
 ·refine .inl fun kn=>?_;rw[if_neg h] at hR;show ifb (ile ((A.length+2*bs:Nat):Int) (xs.length:Int)) _ (ck ((A.length:Int)+(bs:Int)) fun n11=>ifb (ilt n11 (xs.length:Int)) (Ä (Ĕ (A++R) (A.length:Int) n11 (xs.length:Int) m) fun r12=>K r12) (K (A++R,m)))=_;rw[Í (decide_eq_false (by omega)),Ô (by omega) (by omega)]
  by_cases h2:bs<R.length
  ·rw[if_pos h2] at hR;obtain⟨u,r,rfl,h1,h3,h4⟩:=hcR.split h2;have:=JZ (m:=m) (P:=A) (U:=u) (V:=r) (Q:=[]) (by omega) (by rw[cJ] at h2; omega) h3 (h4.srt (by rw[cJ] at h; omega)) hWR (by rw[cJ] at hl; omega);rw[dh,dh,show A.length+u.length+r.length=xs.length by rw[cJ] at hl; omega] at this;rw[Ø (decide_eq_true (by omega)),show(A.length:Int)+(bs:Int)=((A.length+u.length:Nat):Int) by omega,this,À,hR]
  ·rw[if_neg h2] at hR;rw[Í (decide_eq_false (by omega)),hR]
abbrev StQ:=Int×List Way×Int×Int×List (Val Ö)×List (Val Ã)×List (Val iy)×List (Val Ù)×List (Val Ã)×List (Val ŋ)
def stQ (b:Int) (l:List Way) (m:ŕ):StQ:=(b,l,m.1.1.1,m.1.1.2,m.1.2.1,m.1.2.2.1,m.1.2.2.2.1,m.1.2.2.2.2.1,m.1.2.2.2.2.2,m.2)
def adx {xs:List Way} (hW:WOk m xs) (hn:xs.length≤100000):Ķ xs (xs.length:Int) m=some (Ľ (Ė m) xs,m):=by
 unfold Ķ jm;refine(aiS hW hn (fun r4=>Ë (fun(v29:StQ) kk40=>ij (xs.length:Int) v29.1 v29.2.1 v29.2.2.1 v29.2.2.2.1 v29.2.2.2.2.1 v29.2.2.2.2.2.1 v29.2.2.2.2.2.2.1 v29.2.2.2.2.2.2.2.1 v29.2.2.2.2.2.2.2.2.1 v29.2.2.2.2.2.2.2.2.2 (fun u30 u31 u32 u33 u34 u35 u36 u37 u38 u39=>kk40 (u30,u31,u32,u33,u34,u35,u36,u37,u38,u39)) (fun z28=>some (z28.1,(((z28.2.1,z28.2.2.1),z28.2.2.2.1,z28.2.2.2.2.1,z28.2.2.2.2.2.1,z28.2.2.2.2.2.2.1,z28.2.2.2.2.2.2.2.1),z28.2.2.2.2.2.2.2.2)))) (stQ (20:Int) r4.1 r4.2))).trans ?_;obtain⟨c1,c2⟩:=aiq (m:=m) (bs:=20) (by omega) (xs.length+1) xs (by omega);refine ĝ (fun v:StQ=>∃(bs:Nat) (l:List Way),1≤bs∧bs≤200000∧v=stQ (bs:Int) l m∧Chs m bs l∧Stb (Ė m) xs l) (fun v=>400000-v.1.toNat) ?_ ⟨20,_,by omega,by omega,rfl,c1,c2⟩;rintro v ⟨bs,l,hb,hb2,rfl,hc,hs⟩;have hl:=hs.length
 by_cases h:bs<xs.length
 ·obtain⟨d1,d2⟩:=aie hb (l.length+1) l (by omega) hc;refine .inr ⟨stQ ((2*bs:Nat):Int) (mpR m bs (l.length+1) l) m,⟨2*bs,_,by omega,by omega,rfl,d1,hs.trans d2⟩,by simp only[stQ]; omega,fun kn=>?_⟩;have:=aiR (m:=m) (xs:=l) hb hb2 hc (hW.stb hs) (by omega) (fun r=>ck ((bs:Int)*(2:Int)) fun n13=>kn (stQ n13 r.1 r.2));rw[hl] at this;show ifb (ilt (bs:Int) (xs.length:Int)) (ck ((2:Int)*(bs:Int)) fun n5=>_) _=_;rw[Ø (decide_eq_true (by omega)),Ô (by omega) (by omega),show(2:Int)*(bs:Int)=((2*bs:Nat):Int) by push_cast; rfl];rw[hl];refine eA ?_ (this.trans ?_)
  ·rfl
  ·rw[Ô (by omega) (by omega)];congr 2;omega
 ·refine .inl fun kn=>?_;show ifb (ilt (bs:Int) (xs.length:Int)) _ (some (l,m))=_;rw[Í (decide_eq_false (by omega)),wq (hc.srt (by omega)) hs]
end
abbrev Mx:=Int×List Int
def Ħ:List Mx→Way→Prop
 |[],[]=>True
 |m::ms,l::ls=>l.Perm m.2∧Ħ ms ls
 |_,_=>False
def Ħ.len:∀{ms:List Mx} {w:Way},Ħ ms w→w.length=ms.length
 |[],[],_=>rfl
 |m::ms,l::ls,h=>by simp[h.2.len]
def Ħ.at:∀{ms:List Mx} {w:Way} {i:Nat} {m:Mx},Ħ ms w→ms[i]?=some m→∃l,w[i]?=some l∧l.Perm m.2
 |[],_,i,_,_,h=>by simp at h
 |m::ms,l::ls,0,x,h,hx=>by
  simp at hx; subst hx;exact⟨l,rfl,h.1⟩
 |m::ms,l::ls,i+1,x,h,hx=>by
  simp only[fi] at hx ⊢;exact h.2.at hx
def stp (d:Int) (m:Mx) (l:List Int) (x:Int):Int :=
 if m.1<d then match l.findIdx? (·==x) with|some k=>m.2.getD k 0|none=>x else x
def η:List Mx→Way→Int→Int→Int
 |m::ms,l::ls,x,d=>stp d m l (η ms ls x d)
 |_,_,x,_=>x
def agw {ms:List Mx} {w:Way} {i:Nat} {m:Mx} {l:List Int} (hm:ms[i]?=some m) (hl:w[i]?=some l) (x d:Int):η (ms.drop i) (w.drop i) x d=stp d m l (η (ms.drop (i+1)) (w.drop (i+1)) x d):=by
 obtain⟨h1,rfl⟩:=cI.1 hm;obtain⟨h2,rfl⟩:=cI.1 hl;rw[dE h1,dE h2,η]
def who_ok {m:ŕ} {w:Way} (h:Ħ m.2 w) (hn:m.2.length≤1000) (hl:∀x∈m.2,x.2.length≤1000) (x d:Int):tf m w x d=some (η m.2 w x d):=by
 unfold tf Yl;rw[Ò,Ô (by omega) (by omega)];refine ĝ (fun s:Int×Int=>∃i:Nat,i≤m.2.length∧s.2=(i:Int)-1∧s.1=η (m.2.drop i) (w.drop i) x d) (fun s=>(s.2+1).toNat) ?_ ⟨m.2.length,Nat.le_refl _,rfl,?_⟩
 ·rintro⟨s1,s2⟩ ⟨i,hi,h1,h2⟩;simp only at h1 h2;subst h1 h2
  cases i with
  |zero =>
   refine .inl fun kn=>?_
   try dsimp only
   unfold zy;rw[Í (by simp[ige])]; rfl
  |succ i =>
   obtain⟨y,hy⟩:∃y,m.2[i]?=some y:=⟨_,cF hi⟩;obtain⟨l,hw,hp⟩:=h.at hy
   have hll:l.length≤1000:=by rw[hp.length_eq]; exact hl y (cO hy)
   have e0:((i+1:Nat):Int)-1=i:=by omega
   refine .inr ⟨(η (m.2.drop i) (w.drop i) x d,(i:Int)-1),⟨i,by omega,rfl,rfl⟩,by simp only[e0]; omega,fun kn=>?_⟩
   try dsimp only
   unfold zy;rw[e0,Ø (by simp[ige]),È hw,Xz (by omega),À,agw hy hw];unfold stp
   cases hf:l.findIdx? (·==η (m.2.drop (i+1)) (w.drop (i+1)) x d) with
   |none =>
    dsimp only;rw[Í (by simp[ige]),Ô (by omega) (by omega)]
    split<;>rfl
   |some k =>
    dsimp only;rw[Ø (by simp[ige]),È hy]
    have hk:k<y.2.length:=by rw[←hp.length_eq]; exact(dI.1 hf).1
    by_cases hd:y.1<d
    ·rw[Ø (by simp[ilt,hd]),È hy,È (cF hk),Ô (by omega) (by omega),if_pos hd];rw[d9,cF hk]; rfl
    ·rw[Í (by simp[ilt,hd]),Ô (by omega) (by omega),if_neg hd]
 ·simp only[List.drop_length];rw[←h.len,List.drop_length];unfold η;rfl
def T6:List Int→List Int→Int
 |x::l,y::m=>(if y=x then 0 else 1)+T6 l m
 |_,_=>0
def Af:List Mx→Way→Int
 |m::ms,l::ls=>T6 l m.2+Af ms ls
 |_,_=>0
def Uc:∀{l m:List Int} {k:Nat} {x y:Int},l[k]?=some x→m[k]?=some y→T6 (l.take (k+1)) (m.take (k+1))=T6 (l.take k) (m.take k)+if y=x then 0 else 1
 |[],_,_,_,_,h,_=>by simp at h
 |_::_,[],_,_,_,_,h=>by simp at h
 |a::l,b::m,0,x,y,h1,h2=>by
  simp at h1 h2; subst h1 h2;simp[T6]
 |a::l,b::m,k+1,x,y,h1,h2=>by
  simp only[fi] at h1 h2;have:=Uc h1 h2;simp only[gH,T6,this]; omega
def Ua:∀{ms:List Mx} {w:Way} {k:Nat} {m:Mx} {l:List Int},ms[k]?=some m→w[k]?=some l→Af (ms.take (k+1)) (w.take (k+1))=Af (ms.take k) (w.take k)+T6 l m.2
 |[],_,_,_,_,h,_=>by simp at h
 |_::_,[],_,_,_,_,h=>by simp at h
 |a::l,b::m,0,x,y,h1,h2=>by
  simp at h1 h2; subst h1 h2;simp[Af]
 |a::l,b::m,k+1,x,y,h1,h2=>by
  simp only[fi] at h1 h2;have:=Ua h1 h2;simp only[gH,Af,this]; omega
def FP:∀l m:List Int,0≤T6 l m∧T6 l m≤m.length
 |[],m=>by simp[T6]
 |_::_,[]=>by simp[T6]
 |a::l,b::m=>by
  have:=FP l m;unfold T6;simp only[List.length_cons]
  split<;>omega
def ada {n:Nat}:∀{ms:List Mx} {w:Way},(∀m∈ms,m.2.length≤n)→0≤Af ms w∧Af ms w≤(ms.length*n:Nat)
 |[],w,_=>by simp[Af]
 |m::ms,[],_=>by
  unfold Af; exact⟨Int.le_refl _,Int.natCast_nonneg _⟩
 |m::ms,l::ls,h=>by
  have h1:=FP l m.2;have h2:=h m (by simp);have h3:=ada (w:=ls) fun x hx=>h x (List.mem_cons_of_mem _ hx);unfold Af
  have:(m::ms).length*n=ms.length*n+n:=by rw[cW,Nat.succ_mul]
  omega
def aiB {n:Nat} {ms:List Mx} (hn:ms.length≤1000) (hl:∀x∈ms,x.2.length≤1000) (w:Way) (i:Nat):0≤Af (ms.take i) w∧Af (ms.take i) w≤1000000:=by
 have h1:=ada (n:=1000) (ms:=ms.take i) (w:=w) fun m hm=>hl m (fX hm);have h2:(ms.take i).length*1000≤1000*1000:=dv _ (by rw[cZ]; omega);omega
def adb {m:ŕ} {w:Way} (h:Ħ m.2 w) (hn:m.2.length≤1000) (hl:∀x∈m.2,x.2.length≤1000):ĵ m w=some (Af m.2 w):=by
 unfold ĵ Gf;have hlen:=h.len;refine ĝ (fun s:Int×Int=>∃i:Nat,i≤w.length∧s.2=(i:Int)∧s.1=Af (m.2.take i) (w.take i)) (fun s=>w.length-s.2.toNat) ?_ ⟨0,Nat.zero_le _,rfl,by simp[Af]⟩;rintro⟨s1,s2⟩ ⟨i,hi,h1,h2⟩;simp only at h1 h2;subst h1 h2;rcases Nat.lt_or_ge i w.length with hlt|hge
 ·obtain⟨y,hy⟩:∃y,m.2[i]?=some y:=⟨_,cF (by omega)⟩;obtain⟨l,hw,hp⟩:=h.at hy
  have hll:l.length≤1000:=by rw[hp.length_eq]; exact hl y (cO hy)
  refine .inr ⟨(Af (m.2.take (i+1)) (w.take (i+1)),(i:Int)+1),⟨i+1,hlt,by simp,rfl⟩,by simp only[cT]; omega,fun kn=>?_⟩
  try dsimp only
  unfold pb;rw[Ð hlt,È hw];have hb:=aiB (n:=0) hn hl (w.take i) i;refine ĝ (fun s:Int×Int=>∃k:Nat,k≤l.length∧s.2=(k:Int)∧s.1=Af (m.2.take i) (w.take i)+T6 (l.take k) (y.2.take k)) (fun s=>l.length-s.2.toNat) ?_ ⟨0,Nat.zero_le _,rfl,by simp[T6]⟩;rintro⟨t1,t2⟩ ⟨k,hk,h1,h2⟩;simp only at h1 h2;subst h1 h2;have hb2:=FP (l.take k) (y.2.take k)
  have hb3:(y.2.take k).length≤1000:=by rw[cZ]; omega
  rcases dg k l.length with hkl|hkg
  ·obtain⟨u,hu⟩:∃u,l[k]?=some u:=⟨_,cF hkl⟩;obtain⟨v,hv⟩:∃v,y.2[k]?=some v:=⟨_,cF (by rw[←hp.length_eq]; exact hkl)⟩;refine .inr ⟨(Af (m.2.take i) (w.take i)+T6 (l.take (k+1)) (y.2.take (k+1)),(k:Int)+1),⟨k+1,hkl,by simp,rfl⟩,by simp only[cT]; omega,fun kn=>?_⟩
   try dsimp only
   unfold o9;rw[Ð hkl,È hu,È hy,È hv,Uc hu hv]
   by_cases huv:v=u
   ·rw[Í (by simp[ine,huv]),Ô (by omega) (by omega),if_pos huv]; simp
   ·rw[Ø (by simp[ine,huv]),Ô (by omega) (by omega),Ô (by omega) (by omega),if_neg huv,Int.add_assoc]
  ·refine .inl fun kn'=>?_
   have hk':k=l.length:=by omega
   subst hk'
   try dsimp only
   unfold o9;rw[Þ];dsimp only;rw[Ô (by omega) (by omega),Ua hy hw,List.take_length,hp.length_eq,List.take_length]
 ·refine .inl fun kn=>?_
  have hk':i=w.length:=by omega
  subst hk'
  try dsimp only
  unfold pb;rw[Þ,List.take_length,hlen,List.take_length]
def aji (a:Int):List Int→List Int
 |[]=>[a]
 |b::t=>if a≤b then a::b::t else b::aji a t
def ml:List Int→List Int
 |[]=>[]
 |a::t=>aji a (ml t)
def xv (p:Option Int):List Int→List Int
 |[]=>[]
 |a::t=>if p=some a then xv (some a) t else a::xv (some a) t
def T7 (l:List Int):List Int:=xv none (ml l)
def MK (a:Int):∀l,(aji a l).Perm (a::l)
 |[]=>List.Perm.refl _
 |b::t=>by
  unfold aji
  split
  ·exact List.Perm.refl _
  ·exact((MK a t).cons b).trans (List.Perm.swap a b t)
def Š:∀l,(ml l).Perm l
 |[]=>List.Perm.refl _
 |a::t=>(MK a _).trans ((Š t).cons a)
def MJ (a:Int):∀{l:List Int},l.Pairwise (·≤·)→(aji a l).Pairwise (·≤·)
 |[],_=>by simp[aji]
 |b::t,h=>by
  rw[List.pairwise_cons] at h;unfold aji
  split
  ·rename_i hab;refine dt.2 ⟨fun x hx=>?_,dt.2 h⟩;rcases cN.1 hx with rfl|hx
   ·exact hab
   ·have:=h.1 x hx; omega
  ·rename_i hab;refine dt.2 ⟨fun x hx=>?_,MJ a h.2⟩;rcases cN.1 ((MK a t).mem_iff.1 hx) with rfl|hx
   ·omega
   ·exact h.1 x hx
def lO:∀l:List Int,(ml l).Pairwise (·≤·)
 |[]=>List.Pairwise.nil
 |a::t=>MJ a (lO t)
def QQ (l:List Int):xy l=ml l:=by
 have h1:(xy l).Pairwise (·≤·):=by
  have:=List.pairwise_mergeSort (le:=fun a b:Int=>decide (a≤b)) (fun a b c h1 h2=>by simp at *; omega) (fun a b=>by simp; omega) l
  exact this.imp fun h=>by simpa using h
 exact List.Perm.eq_of_pairwise (le:=(·≤·)) (fun a b _ _ h1 h2=>by omega) h1 (lO l) ((List.mergeSort_perm l _).trans (Š l).symm)
def Pu (a:Int):∀(l:List Int) (p:Option Int),xv p (l++[a])=xv p l++(if (match l.getLast? with|some b=>some b|none=>p)=some a then[] else[a])
 |[],p=>by simp only[dS,xv,List.getLast?_nil]; rfl
 |b::t,p=>by
  have ih:=Pu a t (some b)
  have e:(match (b::t).getLast? with|some c=>some c|none=>p)=(match t.getLast? with|some c=>some c|none=>some b):=by
   cases t with
   |nil=>rfl
   |cons c t =>
    rw[List.getLast?_cons_cons]
    cases h:(c::t).getLast? with
    |none=>simp at h
    |some x=>rfl
  rw[e];simp only[ft,xv,ih]
  split<;>simp
def Bz (l:List Int):∀m,m≤l.length→Lib.compactUpTo l.toArray m=xv none (l.take m)
 |0,_=>by simp[Lib.compactUpTo,xv]
 |m+1,h=>by
  have hm:m<l.length:=h;rw[Lib.compactUpTo_succ,Bz l m (by omega),take_succ (cF hm),Pu];congr 1
  have e1:l.toArray[m]! = l[m]:=by simp[getElem!_pos,hm]
  rw[e1];unfold Lib.keeps;rw[e1]
  cases m with
  |zero=>simp
  |succ m =>
   have hm':m<l.length:=by omega
   have e2:l.toArray[m+1-1]! = l[m]:=by simp[getElem!_pos,hm']
   rw[e2]
   have e3:(l.take (m+1)).getLast?=some l[m]:=by rw[take_succ (cF hm'),List.getLast?_append]; rfl
   rw[e3]
   by_cases hne:l[m+1]=l[m]
   ·simp[hne]
   ·have:¬l[m]=l[m+1]:=fun h=>hne h.symm;simp[hne,this]
def Zv (l:List Int):zZ l=xv none l:=by
 unfold zZ Lib.compact;rw[Bz l l.length (Nat.le_refl _),List.take_length]
def adE (l:List Int):zZ (xy l)=T7 l:=by rw[QQ,Zv]; rfl
def Uj:∀{l:List Int} {p:Option Int} {x:Int},p≠some x→(x∈xv p l↔x∈l)
 |[],_,_,_=>Iff.rfl
 |a::t,p,x,hp=>by
  unfold xv
  by_cases hx:x=a
  ·subst hx;rw[if_neg hp]; simp
  ·have ih:=Uj (l:=t) (p:=some a) (x:=x) (fun e=>hx (by cases e; rfl))
   split<;>simp[ih,hx]
def Z2:∀{l:List Int} {p:Option Int},l.Pairwise (·≤·)→(∀q,p=some q→∀x∈l,q≤x)→(xv p l).Pairwise (·<·)∧∀q,p=some q→∀x∈xv p l,q<x
 |[],p,_,_=>⟨List.Pairwise.nil,fun _ _ _ h=>by cases h⟩
 |a::t,p,h,hp=>by
  rw[List.pairwise_cons] at h;obtain⟨i1,i2⟩:=Z2 (l:=t) (p:=some a) h.2 (fun q hq x hx=>by cases hq; exact h.1 x hx);unfold xv
  split
  ·rename_i e;exact⟨i1,fun q hq x hx=>by rw[e] at hq; cases hq; exact i2 _ rfl x hx⟩
  ·rename_i e;refine⟨dt.2 ⟨fun x hx=>i2 _ rfl x hx,i1⟩,fun q hq x hx=>?_⟩;have:=hp q hq a (by simp);have hne:q≠a:=fun h=>e (by rw[hq,h]);rcases cN.1 hx with rfl|hx
   ·omega
   ·have:=i2 _ rfl x hx; omega
def oU {l:List Int} {x:Int}:x∈T7 l↔x∈l:=by
 unfold T7;rw[Uj (by simp),(Š l).mem_iff]
def J5 (l:List Int):(T7 l).Pairwise (·<·):=(Z2 (lO l) (fun q hq=>by cases hq)).1
def Uk:∀(l:List Int) (p:Option Int),(xv p l).length≤l.length
 |[],_=>cG _
 |a::t,p=>by
  have:=Uk t (some a);unfold xv
  split<;>simp<;>omega
def Jw (l:List Int):(T7 l).length≤l.length:=by
 unfold T7;have:=Uk (ml l) none
 rwa [(Š l).length_eq] at this
def af7 {l m:List Int} (hl:l.Pairwise (·<·)) (hm:m.Pairwise (·<·)) (h:∀x,x∈l↔x∈m):l=m:=by
 induction l generalizing m with
 |nil =>
  cases m with
  |nil=>rfl
  |cons a t=>have:=(h a).2 (by simp); cases this
 |cons a t ih =>
  rw[dt] at hl
  cases m with
  |nil=>have:=(h a).1 (by simp); cases this
  |cons b u =>
   rw[dt] at hm
   have hab:a=b:=by
    rcases cN.1 ((h a).1 (by simp)) with h1|h1
    ·exact h1
    ·rcases cN.1 ((h b).2 (by simp)) with h2|h2
     ·exact h2.symm
     ·have:=hm.1 a h1; have:=hl.1 b h2; omega
   subst hab;rw[ih hl.2 hm.2 fun x=>?_];constructor
   ·intro hx;rcases cN.1 ((h x).1 (by simp[hx])) with h1|h1
    ·have:=hl.1 x hx; omega
    ·exact h1
   ·intro hx;rcases cN.1 ((h x).2 (by simp[hx])) with h1|h1
    ·have:=hm.1 x hx; omega
    ·exact h1
def xC (b:ë) (s:List (Int×ò)) (c:Cmp):Int :=
 if (c.2.2.1++c.2.2.2.1).any (fun id=>nH s id c.2.1==5) then 5 else
 if (c.2.2.1++c.2.2.2.1).any (fun id=>nH s id c.2.1==4) then 4 else
 if (c.2.2.1++c.2.2.2.1).any (fun id=>(mb b id c.2.1).isSome) then 9 else
 if 1<(û c.2.2.1 c.2.2.2.1).length then 1 else if 1<(û c.2.2.2.1 c.2.2.1).length then 1 else
 if (û c.2.2.1 c.2.2.2.1).length+(û c.2.2.2.1 c.2.2.1).length=0 then 1 else 0
def Yd (c:Cmp):Bool :=
 inP c.1 1 1099511627776&&(JT c.2.1&&(inP c.2.2.2.2.1 (-1125899906842624) 1125899906842624&&(inP c.2.2.2.2.2.1 0 1073741824&&(mu c.2.2.2.2.2.2 (-10000) 10000&&(xE c.2.2.1&&xE c.2.2.2.1)))))
def pv (b:ë) (s:List (Int×ò)) (i:Nat) (c:Cmp):Int :=
 if !Yd c then 1 else if (b.2.2.2.2.1.take i).any (fun x=>x.1==c.1) then 6 else xC b s c
def EP (a b:List Int):(û a b).length≤a.length:=dX _ _
set_option maxHeartbeats 1000000 in
def Nn {b:ë} (hn:b.2.2.2.2.1.length≤1000) (hl:b.2.2.2.1.length≤1000) (s:List (Int×ò)) {i:Nat} {c:Cmp} (hA:c.2.2.1.length≤1000) (hB:c.2.2.2.1.length≤1000)
 (hc:b.2.2.2.2.1[i]?=some c):ŏ b s i=some (pv b s i c):=by
 have hi:i<b.2.2.2.2.1.length:=(List.getElem?_eq_some_iff.1 hc).1;unfold ŏ oJ pv Yd;rw[È hc,Μ,À]
 cases inP c.1 1 1099511627776 with
 |false=>rfl
 |true =>
 rw[JK,À]
 cases JT c.2.1 with
 |false=>rfl
 |true =>
 rw[Μ,À]
 cases inP c.2.2.2.2.1 (-1125899906842624) 1125899906842624 with
 |false=>rfl
 |true =>
 rw[Μ,À]
 cases inP c.2.2.2.2.2.1 0 1073741824 with
 |false=>rfl
 |true =>
 rw[ET,À]
 cases mu c.2.2.2.2.2.2 (-10000) 10000 with
 |false=>rfl
 |true =>
 rw[ES (by omega),À]
 cases xE c.2.2.1 with
 |false=>rfl
 |true =>
 rw[ES (by omega),À]
 cases xE c.2.2.2.1 with
 |false=>rfl
 |true =>
 have hg:((ile (0:Int) (i:Int))&&(ile (i:Int) (î b.2.2.2.2.1)))=true:=by simp[ile,î]; omega
 simp only[dB,é,Bool.and_self,cV,if_false];rw[ċ hg,cT]
 -- what comes behind the IDs
 have rest:(Ä (Ī ([c.2.2.1,c.2.2.2.1])) fun r12=>Ë (fun(v36:Int) kk38=>œ s r12 (Û ([(5:Int),(4:Int)])) c.2.1 ([(5:Int),(4:Int)]) v36 (fun u37=>kk38 u37) (fun z23=>some z23) (fun _=>Ë (fun(v33:Int) kk35=>Œ r12 (Û r12) b.1.1 b.1.2 b.2.1 b.2.2.1 b.2.2.2.1 b.2.2.2.2.1 b.2.2.2.2.2 c.2.1 v33 (fun u34=>kk35 u34) (fun z28=>some z28) (fun _=>Ä (Ů c.2.2.1 c.2.2.2.1) fun r30=>Ä (Ů c.2.2.2.1 c.2.2.1) fun r31=>ifb (igt (Û r30) (1:Int)) (some (1:Int)) (ifb (igt (Û r31) (1:Int)) (some (1:Int)) (ck ((Û r30)+(Û r31)) fun n32=>ifb (ieq n32 (0:Int)) (some (1:Int)) (some (0:Int)))))) (0:Int))) (0:Int))=some (xC b s c):=by
  rw[NJ (by omega) (by omega),À]
  have hall:(c.2.2.1++c.2.2.2.1).length≤2000:=by simp; omega
  have last:(Ä (Ů c.2.2.1 c.2.2.2.1) fun r30=>Ä (Ů c.2.2.2.1 c.2.2.1) fun r31=>ifb (igt (Û r30) (1:Int)) (some (1:Int)) (ifb (igt (Û r31) (1:Int)) (some (1:Int)) (ck ((Û r30)+(Û r31)) fun n32=>ifb (ieq n32 (0:Int)) (some (1:Int)) (some (0:Int))))) =
   some (if 1<(û c.2.2.1 c.2.2.2.1).length then 1 else if 1<(û c.2.2.2.1 c.2.2.1).length then 1 else if (û c.2.2.1 c.2.2.2.1).length+(û c.2.2.2.1 c.2.2.1).length=0 then 1 else 0):=by
   rw[ta (by omega) (by omega),À,ta (by omega) (by omega),À];have l1:=EP c.2.2.1 c.2.2.2.1;have l2:=EP c.2.2.2.1 c.2.2.1;rw[Ò,Ò,Ô (by omega) (by omega)]
   by_cases c1:1<(û c.2.2.1 c.2.2.2.1).length
   ·rw[Ø (by simp[igt]; omega),if_pos c1]
   rw[Í (by simp[igt]; omega),if_neg c1]
   by_cases c2:1<(û c.2.2.2.1 c.2.2.1).length
   ·rw[Ø (by simp[igt]; omega),if_pos c2]
   rw[Í (by simp[igt]; omega),if_neg c2]
   by_cases c3:(û c.2.2.1 c.2.2.2.1).length+(û c.2.2.2.1 c.2.2.1).length=0
   ·rw[Ø (by simp[ieq]; omega),if_pos c3]
   rw[Í (by simp[ieq]; omega),if_neg c3]
  refine eA (mS [(5:Int),4] (fun _ want=>if (c.2.2.1++c.2.2.2.1).any (fun id=>nH s id c.2.1==want) then some want else none) some (some (if (c.2.2.1++c.2.2.2.1).any (fun id=>(mb b id c.2.1).isSome) then 9 else if 1<(û c.2.2.1 c.2.2.2.1).length then 1 else if 1<(û c.2.2.2.1 c.2.2.1).length then 1 else if (û c.2.2.1 c.2.2.2.1).length+(û c.2.2.2.1 c.2.2.1).length=0 then 1 else 0)) (fun j want hj hw kn=>?_) (fun kn=>?_)) ?_
  ·try dsimp only
   unfold œ;rw[Ð hj,Į hj,ô hw];refine Eq.trans (Ĺ (c.2.2.1++c.2.2.2.1) (fun id=>nH s id c.2.1==want) (fun _=>some want) (some want) (kn ((j:Int)+1)) (fun _=>rfl) (fun k a hk ha kn'=>?_) (fun kn'=>?_)) ?_
   ·try dsimp only
    unfold iJ;rw[Ð hk,È ha,Yh,À,Ì hk (by omega),Ď]
   ·try dsimp only
    unfold iJ;rw[Þ,Ì hj (by simp)]
   ·cases List.any (c.2.2.1++c.2.2.2.1) (fun id=>nH s id c.2.1==want)<;>rfl
  ·try dsimp only
   unfold œ;rw[Þ];refine Eq.trans (Ĺ (c.2.2.1++c.2.2.2.1) (fun id=>(mb b id c.2.1).isSome) (fun _=>some 9) (some 9) (some (if 1<(û c.2.2.1 c.2.2.2.1).length then 1 else if 1<(û c.2.2.2.1 c.2.2.1).length then 1 else if (û c.2.2.1 c.2.2.2.1).length+(û c.2.2.2.1 c.2.2.1).length=0 then 1 else 0)) (fun _=>rfl) (fun k a hk ha kn'=>?_) (fun kn'=>?_)) ?_
   ·try dsimp only
    unfold Œ;have haw:=af2 hl a c.2.1;rw[Ð hk,È ha,Ì hk (by omega)];rw[show wz ((b.1.1,b.1.2),b.2.1,b.2.2.1,b.2.2.2.1,b.2.2.2.2.1,b.2.2.2.2.2) a c.2.1=wz b a c.2.1 from rfl,haw,À]
    cases mb b a c.2.1<;>rfl
   ·try dsimp only
    unfold Œ;rw[Þ,last]
   ·cases List.any (c.2.2.1++c.2.2.2.1) (fun id=>(mb b id c.2.1).isSome)<;>rfl
  ·unfold xC Ŏ Ŏ Ŏ
   try dsimp only
   cases List.any (c.2.2.1++c.2.2.2.1) (fun id=>nH s id c.2.1==5) with
   |true=>rfl
   |false =>
   cases List.any (c.2.2.1++c.2.2.2.1) (fun id=>nH s id c.2.1==4)<;>rfl
 refine eA (Ĺ (b.2.2.2.2.1.take i) (fun x=>x.1==c.1) (fun z11=>ifb (ige z11 (0:Int)) (some 6) (some (xC b s c))) (some 6) (some (xC b s c)) (fun j=>?_) (fun j a hj ha kn=>?_) (fun kn=>?_)) ?_
 ·have:ige (j:Int) 0=true:=by simp[ige]
  rw[Ø this]
 ·try dsimp only
  unfold iK;rw[rest,Ð hj,È ha,Ì hj (by rw[List.length_take]; omega),Ď]
 ·try dsimp only
  unfold iK;rw[Þ,rest]
 ·cases List.any (b.2.2.2.2.1.take i) (fun x=>x.1==c.1)<;>rfl
def Fu (b:ë) (g:ò):List Int :=
 [g.2.1]++(b.2.2.2.2.1.filter fun c=>!(c.2.2.1.contains g.1==c.2.2.2.1.contains g.1)).map (fun c=>c.2.1)++(b.2.2.2.2.2.filter fun n=>n.1==g.1).map (fun n=>n.2)
def ß (b:ë) (g:ò):List Int:=T7 (Fu b g)
structure qF (b:ë):Prop where
 gauges:b.2.1.length≤1000
 uses:b.2.2.1.length≤1000
 loans:b.2.2.2.1.length≤1000
 compares:b.2.2.2.2.1.length≤1000
 looks:b.2.2.2.2.2.length≤1000
 piles:∀c∈b.2.2.2.2.1,c.2.2.1.length≤1000∧c.2.2.2.1.length≤1000
def Ur (l:List Int):(xy l).length=l.length:=List.length_mergeSort l
def W5 {b:ë} (hs:qF b) (g:ò):(Fu b g).length≤2001:=by
 have h1:=hs.compares;have h2:=hs.looks;have h3:=dX (fun c:Cmp=>!(c.2.2.1.contains g.1==c.2.2.2.1.contains g.1)) b.2.2.2.2.1;have h4:=dX (fun n:Int×Int=>n.1==g.1) b.2.2.2.2.2;simp only[Fu,cJ,dA,dG];omega
def aff {b:ë} (hs:qF b) (g:ò):pr b g=some (ß b g):=by
 unfold pr SV;have hr:=W5 hs g
 have hd:(ß b g).length≤2001:=by
  unfold ß;have:=Jw (Fu b g);omega
 have hcl:=hs.compares;have hll:=hs.looks;refine ĩ b.2.2.2.2.1 (fun i=>[g.2.1]++((b.2.2.2.2.1.take i).filter fun c=>!(c.2.2.1.contains g.1==c.2.2.2.1.contains g.1)).map (fun c=>c.2.1)) _ rfl (fun i c hi hc kn=>?_) (fun kn=>?_)
 ·try dsimp only
  unfold we;obtain⟨p1,p2⟩:=hs.piles c (List.mem_of_getElem? hc);rw[Ð hi,È hc,ī (by omega),À,ī (by omega),À,Ì hi (by omega),Ì hi (by omega),take_succ hc,List.filter_append,List.map_append]
  have hlen:([g.2.1]++((b.2.2.2.2.1.take i).filter fun c=>!(c.2.2.1.contains g.1==c.2.2.2.1.contains g.1)).map (fun c=>c.2.1)).length≤1001:=by
   have h3:=dX (fun c:Cmp=>!(c.2.2.1.contains g.1==c.2.2.2.1.contains g.1)) (b.2.2.2.2.1.take i);rw[cZ] at h3;simp only[cJ,dA,dG];omega
  rw[Õ (by simp only[dG]; omega),Am.iff_true]
  cases h:(c.2.2.1.contains g.1==c.2.2.2.1.contains g.1) with
  |true=>simp only[dB,é,dT,h,cV,if_false,eG,fp,dh]
  |false=>simp only[fg,lQ,dT,h,if_true,eG,eE,fp,cQ]
 ·try dsimp only
  unfold we;rw[Þ,List.take_length];refine ĩ b.2.2.2.2.2 (fun i=>[g.2.1]++(b.2.2.2.2.1.filter fun c=>!(c.2.2.1.contains g.1==c.2.2.2.1.contains g.1)).map (fun c=>c.2.1)++((b.2.2.2.2.2.take i).filter fun n=>n.1==g.1).map (fun n=>n.2)) _ (by simp) (fun i n hi hn kn=>?_) (fun kn=>?_)
  ·try dsimp only
   unfold wd;rw[Ð hi,È hn,Ì hi (by omega),Ì hi (by omega),take_succ hn,List.filter_append,List.map_append]
   have hlen:([g.2.1]++(b.2.2.2.2.1.filter fun c=>!(c.2.2.1.contains g.1==c.2.2.2.1.contains g.1)).map (fun c=>c.2.1)++((b.2.2.2.2.2.take i).filter fun n=>n.1==g.1).map (fun n=>n.2)).length≤2001:=by
    have h3:=dX (fun c:Cmp=>!(c.2.2.1.contains g.1==c.2.2.2.1.contains g.1)) b.2.2.2.2.1;have h4:=dX (fun n:Int×Int=>n.1==g.1) (b.2.2.2.2.2.take i);rw[cZ] at h4;simp only[cJ,dA,dG];omega
   rw[Õ (by simp only[dG]; omega),Am.iff_true]
   cases h:(n.1==g.1) with
   |true =>
    have:ieq n.1 g.1=true:=h;simp[h,this]
   |false =>
    have:ieq n.1 g.1=false:=h;simp[h,this]
  ·try dsimp only
   unfold wd;rw[Þ,List.take_length];rw[show([g.2.1]++(b.2.2.2.2.1.filter fun c=>!(c.2.2.1.contains g.1==c.2.2.2.1.contains g.1)).map (fun c=>c.2.1)++(b.2.2.2.2.2.filter fun n=>n.1==g.1).map (fun n=>n.2))=Fu b g from rfl];dsimp only;rw[Õ (by omega),Am.iff_true,Õ (by rw[Ur]; omega),Am.iff_true,adE];rfl
def Ê (b:ë):List (Int×Int):=b.2.1.flatMap fun g=>(ß b g).map fun d=>((g.1,d):Int×Int)
def Nf {b:ë} (hs:qF b) (g:ò):(ß b g).length≤2001:=by
 unfold ß;have:=Jw (Fu b g);have:=W5 hs g;omega
def CN {α β:Type} (f:α→List β) (n:Nat) (h:∀a,(f a).length≤n):∀l:List α,(l.flatMap f).length≤l.length*n
 |[]=>by simp
 |a::l=>by
  have:=CN f n h l;have:=h a;simp only[dz,cJ,cW,dl,fq];omega
def JB {b:ë} (hs:qF b):ox b=some (Ê b):=by
 unfold ox Mc;have hg:=hs.gauges
 have hlen:∀l:List ò,(l.flatMap fun g=>(ß b g).map fun d=>((g.1,d):Int×Int)).length≤l.length*2001:=fun l =>
  CN _ 2001 (fun g=>by rw[dA]; exact Nf hs g) l
 refine ĩ b.2.1 (fun i=>(b.2.1.take i).flatMap fun g=>(ß b g).map fun d=>((g.1,d):Int×Int)) _ rfl (fun i g hi hg' kn=>?_) (fun kn=>?_)
 ·try dsimp only
  unfold sf;rw[Ð hi,È hg'];rw[show pr ((b.1.1,b.1.2),b.2.1,b.2.2.1,b.2.2.2.1,b.2.2.2.2.1,b.2.2.2.2.2) g=pr b g from rfl,aff hs,À];have hd:=Nf hs g;have hi2:=hlen (b.2.1.take i)
  have htl:(b.2.1.take i).length≤1000:=by rw[cZ]; omega
  refine ĩ (ß b g) (fun j=>((b.2.1.take i).flatMap fun g=>(ß b g).map fun d=>((g.1,d):Int×Int))++((ß b g).take j).map fun d=>((g.1,d):Int×Int)) _ (by simp) (fun j d hj hd' kn'=>?_) (fun kn'=>?_)
  ·try dsimp only
   unfold se;rw[Ð hj,È hd',Ì hj (by omega),take_succ hd',List.map_append];rw[Õ (by simp only[List.length_append,List.length_map,List.length_take,List.length_singleton]; omega),Am.iff_true];simp
  ·try dsimp only
   unfold se;rw[Þ,List.take_length];dsimp only;rw[Ì hi (by omega),take_succ hg',List.flatMap_append];simp
 ·try dsimp only
  unfold sf;rw[Þ,List.take_length];rfl
def qW (b:ë) (s:List (Int×ò)):List Int :=
 b.2.2.1.map (fun u=>HF s u.1 u.2)++(b.2.2.2.1.mapIdx (fun i l=>Tf b s i l)++(b.2.2.2.2.1.mapIdx (fun i c=>pv b s i c)++b.2.2.2.2.2.map (fun u=>HF s u.1 u.2)))
def Vj {α:Type} {f:Int→Option Int} {g:Nat→α→Int} (l:List α) (h:∀(i:Nat) (a:α),l[i]?=some a→f i=some (g i a)):KD f (xu l.length)=some (l.mapIdx g):=by
 have h1:∀i,i<l.length→f (i:Int)=some ((l.mapIdx g)[i]?.getD 0):=by
  intro i hi;rw[h i l[i] (cF hi)];simp[hi]
 have h2:∀x∈xu l.length,f x=some ((l.mapIdx g)[x.toNat]?.getD 0):=by
  intro x hx;unfold xu at hx;obtain⟨i,hi,rfl⟩:=List.mem_map.1 hx;rw[h1 i (by simpa using hi)];rfl
 rw[Dp h2];congr 1;refine List.ext_getElem (by simp[xu]) fun i h3 h4=>?_
 have h5:i<l.length:=by simpa using h4
 simp[xu,h5]
def agX {b:ë} (hs:qF b) (s:List (Int×ò)):ot b s=some (qW b s):=by
 unfold ot qW
 rw[Dp (fun u _=>UO s u.1 u.2),À,Vj b.2.2.2.1 (fun i l hl=>Xd hs.loans hs.uses s hl),À,
  Vj b.2.2.2.2.1 (fun i c hc=>Nn hs.compares hs.loans s (hs.piles c (cO hc)).1 (hs.piles c (cO hc)).2 hc),À,Dp (fun u _=>UO s u.1 u.2),À]
def ñ (b:ë):Int :=
 if !mu b.1 0 1000000 then 1 else
 if 12<b.2.1.length then 2 else if 40<b.2.2.1.length then 2 else if 12<b.2.2.2.1.length then 2 else if 40<b.2.2.2.2.1.length then 2 else if 10<b.2.2.2.2.2.length then 2 else
 if mW b != 0 then mW b else
 match (qW b (ő b)).find? (fun e=>e != 0) with
 |some e=>e
 |none=>if 59<(Ê b).length then 2 else if 300<2*b.2.1.length+2*((Ê b).length-b.2.1.length:Int)+2*b.2.2.2.2.1.length then 2 else 0
def PP {b:ë} (hs:qF b):(Ê b).length≤2001000:=by
 have:=CN (fun g:ò=>(ß b g).map fun d=>((g.1,d):Int×Int)) 2001 (fun g=>by rw[List.length_map]; exact Nf hs g) b.2.1;have h2:=hs.gauges;unfold Ê;omega
def kE {b:ë} (hs:qF b) (hr:∀g∈b.2.1,I64 g.2.2.2.2.1.1):ĕ b=some (ñ b):=by
 unfold ĕ My ñ;rw[ET,À]
 cases mu b.1 0 1000000 with
 |false=>rfl
 |true =>
 have h1:=hs.gauges;have h2:=hs.compares;have h3:=PP hs;rw[Í (show(!true)=false from rfl),if_neg (by simp)];simp only[Ò]
 by_cases c0:12<b.2.1.length
 ·rw[Ø (by simp[igt]; omega),if_pos c0]
 rw[Í (by simp[igt]; omega),if_neg c0]
 by_cases c1:40<b.2.2.1.length
 ·rw[Ø (by simp[igt]; omega),if_pos c1]
 rw[Í (by simp[igt]; omega),if_neg c1]
 by_cases c2:12<b.2.2.2.1.length
 ·rw[Ø (by simp[igt]; omega),if_pos c2]
 rw[Í (by simp[igt]; omega),if_neg c2]
 by_cases c3:40<b.2.2.2.2.1.length
 ·rw[Ø (by simp[igt]; omega),if_pos c3]
 rw[Í (by simp[igt]; omega),if_neg c3]
 by_cases c4:10<b.2.2.2.2.2.length
 ·rw[Ø (by simp[igt]; omega),if_pos c4]
 rw[Í (by simp[igt]; omega),if_neg c4];rw[Pl hr h1,À]
 cases hm:(mW b != 0) with
 |true =>
  have:ine (mW b) 0=true:=hm;rw[Ø this,if_pos rfl]
 |false =>
 have:ine (mW b) 0=false:=hm;rw[Í this,if_neg (by simp)];rw[FV h1,À];unfold UG;rw[agX hs,À]
 cases(qW b (ő b)).find? (fun e=>e != 0) with
 |some e=>rfl
 |none =>
 dsimp only;rw[JB hs,À]
 by_cases c5:59<(Ê b).length
 ·rw[Ø (by simp[igt]; omega),if_pos c5]
 rw[Í (by simp[igt]; omega),if_neg c5];rw[Ô (by omega) (by omega),Ô (by omega) (by omega),Ô (by omega) (by omega),Ô (by omega) (by omega),Ô (by omega) (by omega),Ô (by omega) (by omega)]
 by_cases c6:300<2*b.2.1.length+2*((Ê b).length-b.2.1.length:Int)+2*b.2.2.2.2.1.length
 ·rw[Ø (by simp[igt]; omega),if_pos c6]
 rw[Í (by simp[igt]; omega),if_neg c6]
def wrapU {n:Nat} (h:n<18446744073709551616):IntKind.wrap .u64 (n:Int)=n:=by
 simp only[IntKind.wrap,IntKind.bits,IntKind.signed];simp;omega
def ac8 {n:Nat} (h:n<9223372036854775808):IntKind.wrap .i64 (n:Int)=n:=by
 simp only[IntKind.wrap,IntKind.bits,IntKind.signed];simp;omega
def jg (l:List (Int×Int)) (x d:Int):Option Nat:=l.findIdx? fun n=>decide (x=n.1)&&decide (d=n.2)
def Xy {l:List (Int×Int)} (hn:l.length≤100000000) (x d:Int):ó l (x,d)=some (match jg l x d with|some j=>(j:Int)|none=>-1):=by
 unfold ó ż;refine Eq.trans (jr l (fun n=>decide (x=n.1)&&decide (d=n.2)) some (some (-1)) (fun i a hi ha kn=>?_) (fun kn=>?_)) ?_
 ·try dsimp only
  unfold Ĩ;rw[Ð hi,È ha,Ì hi (by omega),Ď,Bool.and_true]
 ·try dsimp only
  unfold Ĩ;rw[Þ]
 ·unfold jg
  cases List.findIdx? (fun n=>decide (x=n.1)&&decide (d=n.2)) l<;>rfl
def atP (l:List (Int×Int)) (p:List Int) (d:Int):Int :=
 match p with
 |[]=>0
 |x::_=>match jg l x d with|some j=>(j:Int)+1|none=>0
def jD {l:List (Int×Int)} {x d:Int} {j:Nat} (h:jg l x d=some j):j<l.length∧l[j]?=some (x,d):=by
 unfold jg at h;obtain⟨hj,hp,_⟩:=List.findIdx?_eq_some_iff_getElem.1 h;refine⟨hj,?_⟩;rw[List.getElem?_eq_getElem hj];simp only[Bool.and_eq_true,decide_eq_true_eq] at hp;congr 1;exact Prod.ext hp.1.symm hp.2.symm
def af3 (m:Maker) (p:List Int) (d:Int) (hn:m.2.1.length≤100000000):iA m p d=some (atP m.2.1 p d):=by
 unfold iA yM atP
 cases p with
 |nil=>simp[Ò,ieq]
 |cons x p =>
  have h:ieq (Û (x::p)) 0=false:=by
   rw[Ò];simp only[ieq,cW,beq_eq_false_iff_ne,ne_eq];omega
  rw[h,é,show(0:Int)=((0:Nat):Int) from rfl,È (a:=x) rfl,Xy hn,À]
  cases hx:jg m.2.1 x d with
  |none=>dsimp only; rw[Ô (by omega) (by omega)]; simp only[hx]; rfl
  |some j =>
   have:=(jD hx).1;dsimp only;rw[Ô (by omega) (by omega)];simp only[hx]
def Ix (s:List (Int×ò)) (p:List Int):Int×Int :=
 match p with
 |[]=>(0,1)
 |x::_=>match l5 (k:=tI) (v:=Ö) x s with
  |some g=>g.2.2.2.2.1
  |none=>(0,0)
def UF (s:List (Int×ò)) (p:List Int):iR s p=some (Ix s p):=by
 unfold iR oI Ix
 cases p with
 |nil=>simp[Ò,ieq]
 |cons x p =>
  have h:ieq (Û (x::p)) 0=false:=by
   rw[Ò];simp only[ieq,cW,beq_eq_false_iff_ne,ne_eq];omega
  rw[h,é,show(0:Int)=((0:Nat):Int) from rfl,È (a:=x) rfl]
  cases hx:l5 (k:=tI) (v:=Ö) x s with
  |none=>simp only[NK,hx]
  |some g=>simp only[NK,hx]
def Z0 {l:List (Int×Int)} (hr:∀r∈l,I64 r.1) (hn:l.length≤1000):j9 l=some (if l.any (fun r=>!NQ r) then 1 else 0):=by
 unfold j9 LP;refine Eq.trans (Ĺ l (fun r=>!NQ r) (fun _=>some 1) (some 1) (some 0) (fun _=>rfl) (fun i a hi ha kn=>?_) (fun kn=>?_)) ?_
 ·try dsimp only
  unfold sc;rw[Ð hi,È ha,T3 (hr a (List.mem_of_getElem? ha)),À,Ì hi (by omega),Ď]
 ·try dsimp only
  unfold sc;rw[Þ]
 ·cases l.any (fun r=>!NQ r)<;>rfl
def wL (n d:Int):Int×Int:=(n / (Nat.gcd n.natAbs d.natAbs:Nat),d / (Nat.gcd n.natAbs d.natAbs:Nat))
def oX (r:Int×Int):NQ r=true↔1≤r.2∧r.2≤2147483647∧(r.1.natAbs:Int)≤2147483647∧Nat.gcd r.1.natAbs r.2.natAbs=1:=by
 simp[NQ]
def QX {n d:Int} (hd:0<d):∃g:Nat,0<g∧g=Nat.gcd n.natAbs d.natAbs∧n=(wL n d).1*g∧d=(wL n d).2*g:=by
 have hg:0<Nat.gcd n.natAbs d.natAbs:=Nat.gcd_pos_of_pos_right _ (by omega);refine⟨_,hg,rfl,?_,?_⟩
 ·exact(Int.ediv_mul_cancel (Int.ofNat_dvd_left.2 (Nat.gcd_dvd_left _ _))).symm
 ·exact(Int.ediv_mul_cancel (Int.ofNat_dvd_left.2 (Nat.gcd_dvd_right _ _))).symm
def X4 {n d:Int} (hd:0<d) (hn:n.natAbs≤2147483647) (hd2:d≤2147483647):NQ (wL n d)=true:=by
 obtain⟨g,h0,hg,h1,h2⟩:=QX (n:=n) hd;rw[oX]
 have a1:n.natAbs=(wL n d).1.natAbs*g:=by conv=>lhs; rw[h1]; rw[fQ,fS]
 have a2:d.natAbs=(wL n d).2.natAbs*g:=by conv=>lhs; rw[h2]; rw[fQ,fS]
 have p2:0<(wL n d).2:=by
  rcases Int.lt_trichotomy (wL n d).2 0 with h|h|h
  ·have:=Int.mul_neg_of_neg_of_pos h (show(0:Int)<g by omega); omega
  ·rw[h] at h2; simp at h2; omega
  ·exact h
 have b1:(wL n d).1.natAbs≤n.natAbs:=by rw[a1]; exact gd _ h0
 have b2:(wL n d).2.natAbs≤d.natAbs:=by rw[a2]; exact gd _ h0
 refine⟨by omega,by omega,by omega,?_⟩;have:=Nat.gcd_mul_right (wL n d).1.natAbs g (wL n d).2.natAbs;rw[←a1,←a2,←hg] at this
 have h3:(Nat.gcd (wL n d).1.natAbs (wL n d).2.natAbs)*g=1*g:=by omega
 exact Nat.eq_of_mul_eq_mul_right h0 h3
def PD {n d:Int} (hd:0<d) (hn:n.natAbs≤2147483647) (hd2:d≤2147483647):qB n d=some (wL n d,0):=by
 obtain⟨g,h0,hg,h1,h2⟩:=QX (n:=n) hd;have hr:=(oX _).1 (X4 hd hn hd2);unfold qB Cp;rw[QS ⟨by omega,by omega⟩,À,QS ⟨by omega,by omega⟩,À,aim,À,←hg]
 have a1:n.natAbs=(wL n d).1.natAbs*g:=by conv=>lhs; rw[h1]; rw[fQ,fS]
 have a2:d.natAbs=(wL n d).2.natAbs*g:=by conv=>lhs; rw[h2]; rw[fQ,fS]
 have q1:Int.tdiv (n.natAbs:Int) (g:Int)=((wL n d).1.natAbs:Int):=by
  rw[a1,g9]; exact Int.mul_tdiv_cancel _ (by omega)
 have q2:Int.tdiv (d.natAbs:Int) (g:Int)=((wL n d).2.natAbs:Int):=by
  rw[a2,g9]; exact Int.mul_tdiv_cancel _ (by omega)
 have z:xc (g:Int) 0=false:=by simp[xc]; omega
 have g1:igt ((wL n d).1.natAbs:Int) 2147483647=false:=by simp[igt]; omega
 have g2:igt ((wL n d).2.natAbs:Int) 2147483647=false:=by simp[igt]; omega
 rw[Í z,Í z,q1,q2,wrapU (by omega),wrapU (by omega),ac8 (by omega),ac8 (by omega),Í g1,Í g2]
 have hd0:ilt d 0=false:=by simp[ilt]; omega
 rw[hd0]
 have e2:((wL n d).2.natAbs:Int)=(wL n d).2:=by omega
 rw[e2]
 by_cases hneg:n<0
 ·have hn0:ilt n 0=true:=by simp[ilt,hneg]
  have:(wL n d).1≤0:=by
   rcases gX 0 (wL n d).1 with h|h
   ·have:=Int.mul_pos h (show(0:Int)<g by omega); omega
   ·exact h
  rw[hn0];rw[show(!true==false)=true from rfl,lQ,Ô (by omega) (by omega)]
  have:0-((wL n d).1.natAbs:Int)=(wL n d).1:=by omega
  rw[this]
 ·have hn0:ilt n 0=false:=by simp[ilt]; omega
  have:0≤(wL n d).1:=by
   rcases gX (wL n d).1 0 with h|h
   ·have:=Int.mul_neg_of_neg_of_pos h (show(0:Int)<g by omega); omega
   ·exact h
  rw[hn0];rw[show(!false==false)=false from rfl,é]
  have:((wL n d).1.natAbs:Int)=(wL n d).1:=by omega
  rw[this]
structure vc (r:Int×Int) (n d:Int):Prop where
 rat:NQ r=true
 num : -n≤r.1∧r.1≤n
 den:r.2≤d
def vc.pos {r:Int×Int} {n d:Int} (h:vc r n d):1≤r.2:=((oX r).1 h.rat).1
def vc.i64 {r:Int×Int} {n d:Int} (h:vc r n d):I64 r.1:=by
 have:=((oX r).1 h.rat).2.2.1;exact⟨by omega,by omega⟩
def adg {x y:Int×Int} (hx:NQ x=true) (hy:NQ y=true):j9 [x,y]=some 0:=by
 rw[Z0]
 ·simp[hx,hy]
 ·intro r hr
  have:NQ r=true:=by simp at hr; rcases hr with rfl|rfl<;>assumption
  have:=((oX r).1 this).2.2.1;exact⟨by omega,by omega⟩
 ·simp
def rc {a b m n:Int} (h1 : -m≤a∧a≤m) (h2 : -n≤b∧b≤n) : -(m*n)≤a*b∧a*b≤m*n:=by
 have hm:0≤m:=by omega
 have hn:0≤n:=by omega
 have h3:(a*b).natAbs≤(m*n).natAbs:=by
  rw[fQ,fQ];exact fZ (by omega) (by omega)
 have h4:0≤m*n:=gN hm hn;omega
def subP (x y:Int×Int):Int×Int:=wL (x.1*y.2-y.1*x.2) (x.2*y.2)
def Pw {x y:Int×Int} (hx:vc x 1000 100) (hy:vc y 1000 100):(x.1*y.2-y.1*x.2).natAbs≤200000∧0<x.2*y.2∧x.2*y.2≤10000:=by
 have h1:=rc hx.num (show -100≤y.2∧y.2≤100 from⟨by have:=hy.pos; omega,hy.den⟩);have h2:=rc hy.num (show -100≤x.2∧x.2≤100 from⟨by have:=hx.pos; omega,hx.den⟩);have h3:=rc (show -100≤x.2∧x.2≤100 from⟨by have:=hx.pos; omega,hx.den⟩) (show -100≤y.2∧y.2≤100 from⟨by have:=hy.pos; omega,hy.den⟩);have h4:=Int.mul_pos (show 0<x.2 by have:=hx.pos; omega) (show 0<y.2 by have:=hy.pos; omega);refine⟨by omega,h4,by omega⟩
def Sub_ok {x y:Int×Int} (hx:vc x 1000 100) (hy:vc y 1000 100):TA x y=some (subP x y,0):=by
 obtain⟨b1,b2,b3⟩:=Pw hx hy;have h1:=rc hx.num (show -100≤y.2∧y.2≤100 from⟨by have:=hy.pos; omega,hy.den⟩);have h2:=rc hy.num (show -100≤x.2∧x.2≤100 from⟨by have:=hx.pos; omega,hx.den⟩);unfold TA YP;rw[adg hx.rat hy.rat,À];rw[show ine (0:Int) 0=false from rfl,é,Ô (by omega) (by omega),Ô (by omega) (by omega),Ô (by omega) (by omega),Ô (by omega) (by omega),PD b2 (by omega) (by omega),À];rfl
def adM {n d:Int} (hd:0<d):(wL n d).1.natAbs≤n.natAbs∧(wL n d).2≤d:=by
 obtain⟨g,h0,hg,h1,h2⟩:=QX (n:=n) hd
 have a1:n.natAbs=(wL n d).1.natAbs*g:=by conv=>lhs; rw[h1]; rw[fQ,fS]
 have a2:d.natAbs=(wL n d).2.natAbs*g:=by conv=>lhs; rw[h2]; rw[fQ,fS]
 have b1:(wL n d).1.natAbs≤n.natAbs:=by rw[a1]; exact gd _ h0
 have b2:(wL n d).2.natAbs≤d.natAbs:=by rw[a2]; exact gd _ h0
 exact⟨b1,by omega⟩
def QN {x y:Int×Int} (hx:vc x 1000 100) (hy:vc y 1000 100):vc (subP x y) 200000 10000:=by
 obtain⟨b1,b2,b3⟩:=Pw hx hy;obtain⟨c1,c2⟩:=adM (n:=x.1*y.2-y.1*x.2) b2;exact⟨X4 b2 (by omega) (by omega),by unfold subP; omega,by unfold subP; omega⟩
def acZ (k:Int×Int) (n:Int):Int×Int:=wL (k.1*n) k.2
def PT {k:Int×Int} (hk:vc k 200000 10000) {n:Int} (hn : -10000≤n∧n≤10000):(k.1*n).natAbs≤2000000000:=by
 have:=rc hk.num hn;omega
def Y8 {n:Int} (hn : -10000≤n∧n≤10000):NQ (n,1)=true:=by
 rw[oX];exact⟨by simp,by simp,by simp; omega,by simp⟩
def aix {k:Int×Int} (hk:vc k 200000 10000) {n:Int} (hn : -10000≤n∧n≤10000):Na k (n,1)=some (acZ k n,0):=by
 have b:=PT hk hn;have p:=hk.pos;have q:=hk.den;unfold Na YS;rw[adg hk.rat (Y8 hn),À];rw[show ine (0:Int) 0=false from rfl,é,Ô (by simp only; omega) (by simp only; omega),Int.mul_one,Ô (by omega) (by omega),PD (by omega) (by simp only; omega) (by omega),À];rfl
def Rj {k:Int×Int} (hk:vc k 200000 10000) {n:Int} (hn : -10000≤n∧n≤10000):vc (acZ k n) 2000000000 10000:=by
 have b:=PT hk hn;have p:=hk.pos;have q:=hk.den;obtain⟨c1,c2⟩:=adM (n:=k.1*n) (show 0<k.2 by omega);exact⟨X4 (by omega) (by omega) (by omega),by unfold acZ; omega,by unfold acZ; omega⟩
def cmpP (x y:Int×Int):Int:=if x=y then 0 else if x.1*y.2<y.1*x.2 then -1 else if y.1*x.2<x.1*y.2 then 1 else 0
def air {x y:Int×Int} {m d:Int} (hx:vc x m d) (hy:vc y m d) (hm:m≤2000000000) (hd:d≤10000):M8 x y=some (cmpP x y):=by
 have h1:=rc hx.num (show -d≤y.2∧y.2≤d from⟨by have:=hy.pos; have:=hy.den; omega,hy.den⟩);have h2:=rc hy.num (show -d≤x.2∧x.2≤d from⟨by have:=hx.pos; have:=hx.den; omega,hx.den⟩);have h0:0≤m∧0≤d:=⟨by have:=hx.num; omega,by have:=hx.pos; have:=hx.den; omega⟩;have h3:m*d≤2000000000*10000:=Int.mul_le_mul hm hd h0.2 (by omega);unfold M8 YM cmpP;rw[Ô (by omega) (by omega),Ô (by omega) (by omega)];simp only[Ď,Bool.and_true,Bool.and_eq_true,decide_eq_true_eq,xc,ilt,igt,gt_iff_lt];have:(x.1=y.1∧x.2=y.2)↔x=y:=⟨fun h=>Prod.ext h.1 h.2,fun h=>by rw[h]; exact⟨rfl,rfl⟩⟩;simp only[this]
 (repeat' split)<;>rfl
def abX (k:Int×Int) (heat:Int×Int):(Int×Int)×(Int×Int) :=
 if 0<cmpP (acZ k heat.1) (acZ k heat.2) then(acZ k heat.2,acZ k heat.1) else(acZ k heat.1,acZ k heat.2)
def ai7 {k heat:Int×Int} (hk:vc k 200000 10000) (hh:mu heat (-10000) 10000=true):pq k heat=some (abX k heat):=by
 simp only[mu,Bool.and_eq_true,decide_eq_true_eq] at hh;obtain⟨h1,h2,h3⟩:=hh;have n1 : -10000≤heat.1∧heat.1≤10000:=⟨by omega,by omega⟩;have n2 : -10000≤heat.2∧heat.2≤10000:=⟨by omega,by omega⟩;have r1:vc (heat.1,1) 10000 10000:=⟨Y8 n1,n1,by simp⟩;have r2:vc (heat.2,1) 10000 10000:=⟨Y8 n2,n2,by simp⟩;unfold pq vQ M9 LY tg sY;rw[adg r1.rat r2.rat,À];have:ieq 0 0=true:=rfl;rw[Ø this,air r1 r2 (by omega) (by omega),À]
 have hc:ile (cmpP (heat.1,1) (heat.2,1)) 0=true:=by
  unfold cmpP;simp only[ile,decide_eq_true_eq,Int.mul_one]
  split
  ·omega
  ·split
   ·omega
   ·rw[if_neg (by omega)]; omega
 rw[hc,À];simp only[Bool.not_true,é];rw[T3 hk.i64,hk.rat,À];simp only[Bool.not_true,é];rw[aix hk n1,À,aix hk n2,À];simp only[show ine (0:Int) 0=false from rfl,é];rw[air (Rj hk n1) (Rj hk n2) (by omega) (by omega),À];unfold abX;rw[Ď]
 by_cases h:0<cmpP (acZ k heat.1) (acZ k heat.2)
 ·rw[if_pos h,if_pos (by simpa[igt] using h)]; rfl
 ·rw[if_neg h,if_neg (by simpa[igt] using h)]; rfl
def rateK (s:List (Int×ò)) (c:Cmp):Int×Int:=subP (Ix s (û c.2.2.1 c.2.2.2.1)) (Ix s (û c.2.2.2.1 c.2.2.1))
def š (b:ë) (c:Cmp):(Int×Int)×(Int×Int):=abX (rateK (ő b) c) c.2.2.2.2.2.2
def WU {b:ë} (hs:qF b) {c:Cmp} (hA:c.2.2.1.length≤1000) (hB:c.2.2.2.1.length≤1000)
 (h1:vc (Ix (ő b) (û c.2.2.1 c.2.2.2.1)) 1000 100) (h2:vc (Ix (ő b) (û c.2.2.2.1 c.2.2.1)) 1000 100) (hh:mu c.2.2.2.2.2.2 (-10000) 10000=true):pL b c=some (š b c):=by
 unfold pL GV;rw[FV hs.gauges,À,ta (by omega) (by omega),À,UF,À,ta (by omega) (by omega),À,UF,À];unfold wx vR;rw[Sub_ok h1 h2,À,À]
 try dsimp only
 rw[ai7 (QN h1 h2) hh,À];rfl
def mn (b:ë) (c:Cmp):Int×Int :=
 (((c.2.2.1.length-1:Nat):Int)*b.1.1-((c.2.2.2.1.length-1:Nat):Int)*b.1.2,((c.2.2.1.length-1:Nat):Int)*b.1.2-((c.2.2.2.1.length-1:Nat):Int)*b.1.1)
def aa3 {b:ë} {c:Cmp} (hA:c.2.2.1.length≤1000) (hB:c.2.2.2.1.length≤1000) (h1:0≤b.1.1) (h2:b.1.1≤1000000) (h3:0≤b.1.2) (h4:b.1.2≤1000000):uS b c=some (mn b c):=by
 unfold uS Ml mn
 have e:∀n:Nat,Zc 0 ((n:Int)-1)=((n-1:Nat):Int):=by
  intro n;unfold Zc
  split<;>omega
 have bd:∀(n:Nat) (x:Int),n≤1000→0≤x→x≤1000000→0≤((n-1:Nat):Int)*x∧((n-1:Nat):Int)*x≤1000000000:=by
  intro n x hn h0 hx;refine⟨gN (by omega) h0,?_⟩;have:=f0 (show((n-1:Nat):Int)≤1000 by omega) hx h0 (by omega);omega
 have b1:=bd _ _ hA h1 h2;have b2:=bd _ _ hA h3 h4;have b3:=bd _ _ hB h1 h2;have b4:=bd _ _ hB h3 h4;simp only[Ò];rw[Ô (by omega) (by omega),Ô (by omega) (by omega)];simp only[e];rw[Ô (by omega) (by omega),Ô (by omega) (by omega),Ô (by omega) (by omega),Ô (by omega) (by omega),Ô (by omega) (by omega),Ô (by omega) (by omega)]
def aa0 {n d:Int} (hd:1≤d) (hn : -4000000000≤n∧n≤4000000000):yX n d=some (n / d):=by
 unfold yX LV
 have z:xc d 0=false:=by simp[xc]; omega
 rw[Í z];have t:=Int.mul_tdiv_add_tmod n d
 have b1 : -4000000000≤Int.tdiv n d∧Int.tdiv n d≤4000000000:=by
  have:=Int.natAbs_tdiv_le_natAbs n d;omega
 rw[Ô (by omega) (by omega),Í z,Ď]
 by_cases h:Int.tmod n d<0
 ·rw[if_pos (by simpa[ilt] using h),Ô (by omega) (by omega)];congr 1
  have h5 : -d<Int.tmod n d:=by
   have h6:=Int.natAbs_tmod n d;have h7:=Nat.mod_lt n.natAbs (show 0<d.natAbs by omega);omega
  refine(Int.ediv_eq_iff_of_pos (by omega)).2 ⟨?_,?_⟩ |>.symm
  ·rw[Int.sub_mul,gY]; omega
  ·rw[Int.sub_mul,gY (Int.tdiv n d)]; omega
 ·rw[if_neg (by simpa[ilt] using h)];congr 1
  have h5:Int.tmod n d<d:=by
   have h6:=Int.natAbs_tmod n d;have h7:=Nat.mod_lt n.natAbs (show 0<d.natAbs by omega);omega
  refine(Int.ediv_eq_iff_of_pos (by omega)).2 ⟨?_,?_⟩ |>.symm
  ·rw[gY]; omega
  ·rw[gY (Int.tdiv n d)]; omega
def ah8 {x:Int×Int} (hx:NQ x=true):j9 [x]=some 0:=by
 rw[Z0]
 ·simp[hx]
 ·intro r hr
  have:NQ r=true:=by simp at hr; subst hr; assumption
  have:=((oX r).1 this).2.2.1;exact⟨by omega,by omega⟩
 ·simp
def Pm (r:Int×Int):Int:=-(-r.1 / r.2)
def abA {r:Int×Int} (h:NQ r=true):yY r=some (r.1 / r.2,0):=by
 unfold yY L1;have:=(oX r).1 h;rw[ah8 h,À];rw[show ine (0:Int) 0=false from rfl,é,aa0 (by omega) (by omega),À]
def Hr {n d:Int} (hd:1≤d):(n / d).natAbs≤n.natAbs:=by
 exact Int.natAbs_ediv_le_natAbs n d
def agm {r:Int×Int} (h:NQ r=true):Fm r=some (Pm r,0):=by
 unfold Fm Sw Pm;have:=(oX r).1 h;rw[ah8 h,À];rw[show ine (0:Int) 0=false from rfl,é,Ô (by omega) (by omega),aa0 (by omega) (by omega),À];have hb:=Hr (n:=0-r.1) (show 1≤r.2 by omega);rw[Ô (by omega) (by omega),Int.zero_sub,Int.zero_sub]
def qH (b:ë) (c:Cmp):Int×Int :=
 (c.2.2.2.2.1-c.2.2.2.2.2.1-(mn b c).2-(š b c).2.1 / (š b c).2.2,c.2.2.2.2.1+c.2.2.2.2.2.1-(mn b c).1-Pm (š b c).1)
structure Ł (b:ë):Prop where
 film:0≤b.1.1∧b.1.1≤b.1.2∧b.1.2≤1000000
 nG:b.2.1.length≤12
 nU:b.2.2.1.length≤40
 nL:b.2.2.2.1.length≤12
 nC:b.2.2.2.2.1.length≤40
 nK:b.2.2.2.2.2.length≤10
 gauge:∀g∈b.2.1,By g=true
 ids:b.2.1.Pairwise fun a b=>a.1<b.1
 uses:∀u∈b.2.2.1,HF (ő b) u.1 u.2=0
 loans:∀i l,b.2.2.2.1[i]?=some l→Tf b (ő b) i l=0
 compares:∀i c,b.2.2.2.2.1[i]?=some c→pv b (ő b) i c=0
 looks:∀u∈b.2.2.2.2.2,HF (ő b) u.1 u.2=0
 nodes:(Ê b).length≤59
 links:2*(Ê b).length+2*b.2.2.2.2.1.length≤300
def CI (b:ë):mW b=0↔(∀g∈b.2.1,By g=true)∧b.2.1.Pairwise fun a b=>a.1<b.1:=by
 have h0:Ŏ (yU b.2.1) 0 b.2.1=none↔(∀g∈b.2.1,By g=true)∧b.2.1.Pairwise fun a b=>a.1<b.1:=by
  rw[ju,←JU (fun g:ò=>g.1) b.2.1];constructor
  ·intro h
   have h1:∀(j:Nat) (a:ò),b.2.1[j]?=some a→By a=true∧uZ (fun g:ò=>g.1) b.2.1 j a=false:=by
    intro j a ha;have:=h j a ha;rw[Nat.zero_add] at this;unfold yU at this
    split at this
    ·cases this
    ·split at this
     ·cases this
     ·rename_i h1 h2;exact⟨by simpa using h1,by simpa using h2⟩
   refine⟨fun x hx=>?_,fun i a ha=>(h1 i a ha).2⟩;obtain⟨j,hj,rfl⟩:=cS.1 hx;exact(h1 j _ (cF hj)).1
  ·rintro⟨h1,h2⟩ j a ha;rw[dw];simp[yU,h1 a (cO ha),h2 j a ha]
 rw[←h0];unfold mW
 cases h:Ŏ (yU b.2.1) 0 b.2.1 with
 |none=>simp
 |some e =>
  have:∀(m:List ò) (j:Nat) (x:Int),Ŏ (yU b.2.1) j m=some x→x≠0:=by
   intro m
   induction m with
   |nil=>intro j x h; cases h
   |cons a m ih =>
    intro j x h;unfold Ŏ at h
    cases hp:yU b.2.1 j a with
    |none=>rw[hp] at h; exact ih _ _ h
    |some y =>
     rw[hp] at h;cases h;unfold yU at hp
     split at hp
     ·cases hp; omega
     ·split at hp
      ·cases hp; omega
      ·cases hp
  simp[this _ _ _ h]
def ö (b:ë):ñ b=0↔Ł b:=by
 unfold ñ;constructor
 ·intro h
  split at h
  ·omega
  rename_i h1
  (repeat' split at h)<;>try omega
  ·rename_i hg
   have hg':mW b≠0:=by simpa using hg
   exact(hg' h).elim
  ·rename_i hf;have:=gj hf;rename_i e;simp at this;exact(this h).elim
  ·rename_i hn1 hn2 hn3 hn4 hn5 hg e hf hn6 hn7
   have hg0:mW b=0:=by simpa using hg
   obtain⟨g1,g2⟩:=(CI b).1 hg0
   have hall:∀x∈qW b (ő b),x=0:=fun x hx=>by
    have:=ej.1 hf x hx;simpa using this
   simp only[qW,cM] at hall
   have hs:mu b.1 0 1000000=true:=by simpa using h1
   simp only[mu,cH,decide_eq_true_eq] at hs;refine⟨⟨hs.1,hs.2.1,hs.2.2⟩,by omega,by omega,by omega,by omega,by omega,g1,g2,fun u hu=>hall _ (.inl (df.2 ⟨u,hu,rfl⟩)),fun i l hl=>?_,fun i c hc=>?_,fun u hu=>hall _ (.inr (.inr (.inr (df.2 ⟨u,hu,rfl⟩)))),by omega,by omega⟩
   ·obtain⟨hi,rfl⟩:=cI.1 hl;exact hall _ (.inr (.inl (List.mem_mapIdx.2 ⟨i,hi,rfl⟩)))
   ·obtain⟨hi,rfl⟩:=cI.1 hc;exact hall _ (.inr (.inr (.inl (List.mem_mapIdx.2 ⟨i,hi,rfl⟩))))
 ·intro h
  have hs:mu b.1 0 1000000=true:=by simp[mu,h.film.1,h.film.2.1,h.film.2.2]
  have hg:mW b=0:=(CI b).2 ⟨h.gauge,h.ids⟩
  have hall:(qW b (ő b)).find? (fun e=>e != 0)=none:=by
   rw[ej];intro x hx;simp only[qW,cM,df,List.mem_mapIdx] at hx
   have:x=0:=by
    rcases hx with⟨u,hu,rfl⟩|⟨i,hi,rfl⟩|⟨i,hi,rfl⟩|⟨u,hu,rfl⟩
    ·exact h.uses u hu
    ·exact h.loans i _ (cF hi)
    ·exact h.compares i _ (cF hi)
    ·exact h.looks u hu
   simp[this]
  have:=h.nG; have:=h.nU; have:=h.nL; have:=h.nC; have:=h.nK; have:=h.nodes; have:=h.links;rw[hs,hg,hall];simp only[dB,cV,if_false,bne_self_eq_false];rw[if_neg (by omega),if_neg (by omega),if_neg (by omega),if_neg (by omega),if_neg (by omega),if_neg (by omega),if_neg (by omega)]
section
variable {b:ë}
def ţ {l:List Int} (h:xE l=true):l.length≤6:=((Ki l).1 h).2.2
def Ł.nums (h:Ł b) {c:Cmp} (hc:c∈b.2.2.2.2.1):Yd c=true:=by
 obtain⟨i,hi,rfl⟩:=List.mem_iff_getElem.1 hc;have:=h.compares i _ (List.getElem?_eq_getElem hi);unfold pv at this
 split at this
 ·omega
 ·rename_i h; simpa using h
def Ł.pilesOf (h:Ł b) {c:Cmp} (hc:c∈b.2.2.2.2.1):xC b (ő b) c=0:=by
 obtain⟨i,hi,rfl⟩:=List.mem_iff_getElem.1 hc;have:=h.compares i _ (List.getElem?_eq_getElem hi);unfold pv at this
 split at this
 ·omega
 ·split at this
  ·omega
  ·exact this
def iO (c:Cmp):Yd c=true↔(1≤c.1∧c.1≤1099511627776)∧(0≤c.2.1∧c.2.1≤20000)∧(-1125899906842624≤c.2.2.2.2.1∧c.2.2.2.2.1≤1125899906842624)∧(0≤c.2.2.2.2.2.1∧c.2.2.2.2.2.1≤1073741824)∧mu c.2.2.2.2.2.2 (-10000) 10000=true∧xE c.2.2.1=true∧xE c.2.2.2.1=true:=by
 simp[Yd,inP,JT,and_assoc]
def Ł.size (h:Ł b):qF b:=by
 have h1:=h.nG; have h2:=h.nU; have h3:=h.nL; have h4:=h.nC; have h5:=h.nK;refine⟨by omega,by omega,by omega,by omega,by omega,fun c hc=>?_⟩;have:=(iO c).1 (h.nums hc);have a:=ţ this.2.2.2.2.2.1;have b:=ţ this.2.2.2.2.2.2;omega
def Qp (g:ò):By g=true↔NQ g.2.2.2.2.1=true∧(-1000≤g.2.2.2.2.1.1∧g.2.2.2.2.1.1≤1000)∧g.2.2.2.2.1.2≤100∧(1≤g.1∧g.1≤1099511627776)∧(0≤g.2.1∧g.2.1≤20000)∧(1≤g.2.2.1∧g.2.2.1≤1125899906842624)∧(-1073741824≤g.2.2.2.1.1∧g.2.2.2.1.1≤g.2.2.2.1.2∧g.2.2.2.1.2≤1073741824)∧(0≤g.2.2.2.2.2∧g.2.2.2.2.2≤1048576):=by
 simp[By,inP,JT,mu,and_assoc]
def Τ {id:Int} {g:ò} (h:ø b id=some g):g∈b.2.1∧g.1=id:=by
 unfold ø at h;exact⟨List.mem_of_find?_eq_some h,by simpa using List.find?_some h⟩
def qA (hi:b.2.1.Pairwise fun a b=>a.1<b.1) {g:ò} (hg:g∈b.2.1):ø b g.1=some g:=by
 unfold ø
 induction hl:b.2.1 generalizing b with
 |nil=>rw[hl] at hg; cases hg
 |cons a t ih =>
  rw[hl] at hg hi;rw[dt] at hi;rw[fF];rcases cN.1 hg with rfl|hg
  ·simp
  ·have h1:=hi.1 g hg
   have:(a.1==g.1)=false:=by simp; omega
   rw[this];have:=ih (b:=(b.1,t,b.2.2)) hi.2 hg rfl;exact this
def Ga (h:Ł b) {id day:Int} (hm:nH (ő b) id day=0):∃g,ø b id=some g∧g.2.1≤day:=by
 unfold nH at hm;rw[zx h.ids] at hm
 split at hm
 ·rename_i g hg
  split at hm
  ·omega
  ·exact⟨g,hg,by omega⟩
 ·omega
def KH (s:List (Int×ò)) (id day:Int):nH s id day=0∨nH s id day=4∨nH s id day=5:=by
 unfold nH
 split
 ·split<;>simp
 ·simp
def Ł.pile (h:Ł b) {c:Cmp} (hc:c∈b.2.2.2.2.1) {x:Int} (hx:x∈c.2.2.1++c.2.2.2.1):(∃g,ø b x=some g∧g.2.1≤c.2.1)∧mb b x c.2.1=none:=by
 have hp:=h.pilesOf hc;unfold xC at hp
 split at hp
 ·omega
 rename_i h5
 split at hp
 ·omega
 rename_i h4
 split at hp
 ·omega
 rename_i h9;have a5:=(dM.1 (eh.2 h5)) x hx;have a4:=(dM.1 (eh.2 h4)) x hx;have a9:=(dM.1 (eh.2 h9)) x hx;simp at a5 a4 a9;refine⟨Ga h ?_,a9⟩;rcases KH (ő b) x c.2.1 with h0|h0|h0
 ·exact h0
 ·exact(a4 h0).elim
 ·exact(a5 h0).elim
def Ł.lefts (h:Ł b) {c:Cmp} (hc:c∈b.2.2.2.2.1):(û c.2.2.1 c.2.2.2.1).length≤1∧(û c.2.2.2.1 c.2.2.1).length≤1∧(û c.2.2.1 c.2.2.2.1).length+(û c.2.2.2.1 c.2.2.1).length≠0:=by
 have hp:=h.pilesOf hc;unfold xC at hp
 (repeat' split at hp)<;>first|omega|exact⟨by omega,by omega,by omega⟩
def oq {a c:List Int} {x:Int}:x∈û a c↔x∈a∧x∉c:=by
 simp[û]
def Ł.rate (h:Ł b) {p:List Int} (hp:∀x∈p,∃g,ø b x=some g):vc (Ix (ő b) p) 1000 100:=by
 unfold Ix
 cases p with
 |nil =>
  have:vc (0,1) 1000 100:=⟨by decide,by decide,by decide⟩;exact this
 |cons x t =>
  obtain⟨g,hg⟩:=hp x (by simp)
  try dsimp only
  rw[zx h.ids,hg];have:=(Qp g).1 (h.gauge g (Τ hg).1);exact⟨this.1,this.2.1,this.2.2.1⟩
def Ł.rates (h:Ł b) {c:Cmp} (hc:c∈b.2.2.2.2.1):vc (Ix (ő b) (û c.2.2.1 c.2.2.2.1)) 1000 100∧vc (Ix (ő b) (û c.2.2.2.1 c.2.2.1)) 1000 100:=by
 constructor
 ·exact h.rate fun x hx=>by
   obtain⟨⟨g,hg,_⟩,_⟩:=h.pile hc (dD _ (oq.1 hx).1);exact⟨g,hg⟩
 ·exact h.rate fun x hx=>by
   obtain⟨⟨g,hg,_⟩,_⟩:=h.pile hc (dC _ (oq.1 hx).1);exact⟨g,hg⟩
def Ł.growth (h:Ł b) {c:Cmp} (hc:c∈b.2.2.2.2.1):pL b c=some (š b c):=by
 obtain⟨r1,r2⟩:=h.rates hc;have hn:=(iO c).1 (h.nums hc);have a:=ţ hn.2.2.2.2.2.1;have b:=ţ hn.2.2.2.2.2.2;exact WU h.size (by omega) (by omega) r1 r2 hn.2.2.2.2.1
def Ł.films (h:Ł b) {c:Cmp} (hA:c.2.2.1.length≤1000) (hB:c.2.2.2.1.length≤1000):uS b c=some (mn b c):=by
 have:=h.film;exact aa3 hA hB (by omega) (by omega) (by omega) (by omega)
def Rc {k heat:Int×Int} (hk:vc k 200000 10000) (hh:mu heat (-10000) 10000=true):vc (abX k heat).1 2000000000 10000∧vc (abX k heat).2 2000000000 10000:=by
 simp only[mu,Bool.and_eq_true,decide_eq_true_eq] at hh;have r1:=Rj hk (n:=heat.1) ⟨by omega,by omega⟩;have r2:=Rj hk (n:=heat.2) ⟨by omega,by omega⟩;unfold abX
 split
 ·exact⟨r2,r1⟩
 ·exact⟨r1,r2⟩
def CO {c:Cmp} (hA:c.2.2.1.length≤1000) (hB:c.2.2.2.1.length≤1000) (h1:0≤b.1.1) (h2:b.1.1≤1000000) (h3:0≤b.1.2) (h4:b.1.2≤1000000) :
 (-1000000000≤(mn b c).1∧(mn b c).1≤1000000000)∧(-1000000000≤(mn b c).2∧(mn b c).2≤1000000000):=by
 have bd:∀(n:Nat) (x:Int),n≤1000→0≤x→x≤1000000→0≤((n-1:Nat):Int)*x∧((n-1:Nat):Int)*x≤1000000000:=by
  intro n x hn h0 hx;refine⟨gN (by omega) h0,?_⟩;have:=f0 (show((n-1:Nat):Int)≤1000 by omega) hx h0 (by omega);omega
 have b1:=bd _ _ hA h1 h2;have b2:=bd _ _ hA h3 h4;have b3:=bd _ _ hB h1 h2;have b4:=bd _ _ hB h3 h4;unfold mn
 try dsimp only
 omega
def CL {r:Int×Int} (h:vc r 2000000000 10000) : -2000000000≤r.1 / r.2∧r.1 / r.2≤2000000000:=by
 have:=Hr (n:=r.1) h.pos;have:=h.num;omega
def Hv {r:Int×Int} (h:vc r 2000000000 10000) : -2000000000≤Pm r∧Pm r≤2000000000:=by
 have:=Hr (n:=-r.1) h.pos;have:=h.num;unfold Pm;omega
def Ł.says (h:Ł b) {c:Cmp} (hc:c∈b.2.2.2.2.1):zR b c=some (qH b c):=by
 obtain⟨r1,r2⟩:=h.rates hc;have hn:=(iO c).1 (h.nums hc);have ha:=ţ hn.2.2.2.2.2.1;have hb:=ţ hn.2.2.2.2.2.2;have hf:=h.film;obtain⟨g1,g2⟩:=Rc (QN r1 r2) hn.2.2.2.2.1;have fb:=CO (b:=b) (c:=c) (by omega) (by omega) (by omega) (by omega) (by omega) (by omega);have q1:vc (š b c).1 2000000000 10000:=g1;have q2:vc (š b c).2 2000000000 10000:=g2;have c1:=Hv q1;have c2:=CL q2;unfold zR SE qH;rw[h.growth hc,À,h.films (by omega) (by omega),À,abA q2.rat,À,agm q1.rat,À]
 try dsimp only
 have n3:=hn.2.2.1;have n4:=hn.2.2.2.1;rw[Ô (by omega) (by omega),Ô (by omega) (by omega),Ô (by omega) (by omega),Ô (by omega) (by omega),Ô (by omega) (by omega),Ô (by omega) (by omega)]
end
def Ğ (l:NH) (f t:Int):Int:=min l.2.1.2 (t-1)-max l.2.1.1 f+1
def ĺ (id f t:Int):List NH→Int
 |[]=>0
 |l::r=>(if l.1=id∧0<Ğ l f t then Ğ l f t*l.2.2 else 0)+ĺ id f t r
def yQ (id f t:Int):∀(x y:List NH),ĺ id f t (x++y)=ĺ id f t x+ĺ id f t y
 |[],y=>by simp[ĺ]
 |l::r,y=>by
  simp only[ft,ĺ,yQ id f t r y];omega
def iX (b:ë) (id f t:Int):List Int:=(b.2.2.1.filter fun u=>u.1==id&&inP u.2 f (t-1)).map fun u=>u.2
def kL (b:ë) (g:ò) (f t:Int):Int:=ĺ g.1 f t b.2.2.2.1+(T7 (iX b g.1 f t)).length*g.2.2.2.2.2
def Zb (a c:Int):aaR a c=min a c:=by unfold aaR; split<;>omega
def aeN (a c:Int):Zc a c=max a c:=by unfold Zc; split<;>omega
def uH {b:ë} (h:Ł b) {l:NH} (hl:l∈b.2.2.2.1):(0≤l.2.1.1∧l.2.1.1≤l.2.1.2∧l.2.1.2≤20000)∧(0≤l.2.2∧l.2.2≤1048576):=by
 obtain⟨i,hi,rfl⟩:=List.mem_iff_getElem.1 hl;have:=h.loans i _ (List.getElem?_eq_getElem hi);unfold Tf at this
 split at this
 ·omega
 rename_i h1
 split at this
 ·omega
 rename_i h2;simp only[ee,Bool.not_eq_false,mu,inP,cH,decide_eq_true_eq] at h1 h2;exact⟨h1,h2⟩
def Qg {l:NH} (h:(0≤l.2.1.1∧l.2.1.1≤l.2.1.2∧l.2.1.2≤20000)∧(0≤l.2.2∧l.2.2≤1048576)) {f t:Int} (hf:0≤f) (hd:0<Ğ l f t):0≤Ğ l f t*l.2.2∧Ğ l f t*l.2.2≤20001*1048576:=by
 refine⟨Int.mul_nonneg (by omega) h.2.1,Int.mul_le_mul ?_ h.2.2 h.2.1 (by omega)⟩;unfold Ğ;omega
def s9 {id f t:Int} (hf:0≤f):∀{x:List NH},(∀l∈x,(0≤l.2.1.1∧l.2.1.1≤l.2.1.2∧l.2.1.2≤20000)∧(0≤l.2.2∧l.2.2≤1048576))→0≤ĺ id f t x∧ĺ id f t x≤x.length*(20001*1048576)
 |[],_=>by simp[ĺ]
 |l::r,h=>by
  have ih:=s9 (id:=id) (t:=t) hf (x:=r) fun l hl=>h l (by simp[hl]);simp only[ĺ,cW,gz,gn,gD]
  split
  ·rename_i hc;have:=Qg (h l (by simp)) hf hc.2;omega
  ·omega
def ajf {b:ë} (h:Ł b) {g:ò} (hg:0≤g.2.2.2.2.2∧g.2.2.2.2.2≤1048576) {f t:Int} (hf:0≤f∧f≤100000) (ht:0≤t∧t≤100000):zT b g f t=some (kL b g f t):=by
 have hL:=h.nL;have hU:=h.nU
 have hlb:∀i,0≤ĺ g.1 f t (b.2.2.2.1.take i)∧ĺ g.1 f t (b.2.2.2.1.take i)≤12*(20001*1048576):=by
  intro i;have h1:=s9 (id:=g.1) (t:=t) hf.1 (x:=b.2.2.2.1.take i) fun l hl=>uH h (fX hl);have h2:((b.2.2.2.1.take i).length:Int)*(20001*1048576)≤12*(20001*1048576):=fE (by rw[cZ]; omega) (by omega);omega
 unfold zT SI;refine ĝ (fun x:Int×Int=>∃i:Nat,i≤b.2.2.2.1.length∧x=(ĺ g.1 f t (b.2.2.2.1.take i),(i:Int))) (fun x=>b.2.2.2.1.length-x.2.toNat) ?_ ⟨0,by omega,rfl⟩;rintro x ⟨i,hi,rfl⟩;rcases Nat.lt_or_ge i b.2.2.2.1.length with hlt|hge
 ·have hl:b.2.2.2.1[i]?=some b.2.2.2.1[i]:=cF hlt;have hz:=uH h (cO hl);refine .inr ⟨(ĺ g.1 f t (b.2.2.2.1.take (i+1)),(i:Int)+1),⟨i+1,hlt,by simp⟩,by simp; omega,fun kn=>?_⟩
  try dsimp only
  unfold vY;have b1:=hlb i;have b2:=hlb (i+1)
  have e1:ĺ g.1 f t (b.2.2.2.1.take (i+1))=ĺ g.1 f t (b.2.2.2.1.take i)+(if b.2.2.2.1[i].1=g.1∧0<Ğ b.2.2.2.1[i] f t then Ğ b.2.2.2.1[i] f t*b.2.2.2.1[i].2.2 else 0):=by
   rw[take_succ hl,yQ]; simp[ĺ]
  rw[Ð hlt,È hl,Ô (by omega) (by omega),Zb,aeN,Ô (by omega) (by omega),Ô (by omega) (by omega)];rw[show min b.2.2.2.1[i].2.1.2 (t-1)-max b.2.2.2.1[i].2.1.1 f+1=Ğ b.2.2.2.1[i] f t from rfl,Ď]
  by_cases hid:b.2.2.2.1[i].1=g.1
  ·rw[if_pos (by simpa[ieq] using hid),Ď]
   by_cases hd:0<Ğ b.2.2.2.1[i] f t
   ·have lb:=Qg hz hf.1 hd;rw[if_pos ⟨hid,hd⟩] at e1;rw[if_pos (by simpa[igt] using hd),Ô (by omega) (by omega),Ô (by omega) (by omega),Ì hlt (by omega),e1]
   ·rw[if_neg (fun hc=>hd hc.2)] at e1;rw[if_neg (by simpa[igt] using hd),Ì hlt (by omega),e1,gJ]
  ·rw[if_neg (fun hc=>hid hc.1)] at e1;rw[if_neg (by simpa[ieq] using hid),Ì hlt (by omega),e1,gJ]
 ·refine .inl fun kn=>?_
  have:i=b.2.2.2.1.length:=by omega
  subst this
  try dsimp only
  unfold vY;rw[Þ,List.take_length]
  have hud:∀x:List (Int×Int),x.length≤40→((x.filter fun u=>u.1==g.1&&inP u.2 f (t-1)).map fun u=>u.2).length≤40:=by
   intro x hx;rw[dA];exact cY (dX _ _) hx
  refine ĩ b.2.2.1 (fun i=>((b.2.2.1.take i).filter fun u=>u.1==g.1&&inP u.2 f (t-1)).map fun u=>u.2) _ rfl (fun i u hi hu kn'=>?_) (fun kn'=>?_)
  ·try dsimp only
   unfold vX;have hx:=hud (b.2.2.1.take i) (by rw[List.length_take]; omega);rw[Ð hi,È hu,Ô (by omega) (by omega),Μ,À,Õ (by simp only[List.length_singleton]; omega),Am.iff_true,Ì hi (by omega),Ì hi (by omega),take_succ hu,List.filter_append,List.map_append]
   cases h1:(u.1==g.1) with
   |false =>
    have:ieq u.1 g.1=false:=h1;simp only[this,é,dT,h1,Bool.false_and,cV,if_false,eG,fp,dh]
   |true =>
    have:ieq u.1 g.1=true:=h1;rw[this]
    cases h2:inP u.2 f (t-1) with
    |false=>simp only[lQ,é,dT,h1,h2,eF,cV,if_false,eG,fp,dh]
    |true=>simp only[lQ,dT,h1,h2,eF,if_true,eG,fp,eE]
  ·try dsimp only
   unfold vX;rw[Þ,List.take_length];rw[show((b.2.2.1.filter fun u=>u.1==g.1&&inP u.2 f (t-1)).map fun u=>u.2)=iX b g.1 f t from rfl];have h40:(iX b g.1 f t).length≤40:=hud _ hU
   have hc40:(T7 (iX b g.1 f t)).length≤40:=by
    have:=Jw (iX b g.1 f t);omega
   have hm:0≤((T7 (iX b g.1 f t)).length:Int)*g.2.2.2.2.2∧((T7 (iX b g.1 f t)).length:Int)*g.2.2.2.2.2≤40*1048576 :=
    ⟨gN (by omega) hg.1,f0 (by omega) hg.2 hg.1 (by omega)⟩
   have b1:=hlb b.2.2.2.1.length;rw[List.take_length] at b1;dsimp only;rw[Õ (by omega),Am.iff_true,Õ (by rw[Ur]; omega),Am.iff_true,adE,Ò,Ô (by omega) (by omega),Ô (by omega) (by omega)];rfl
def ň (b:ë) (g:ò):List Lk :=
 [(0,atP (Ê b) [g.1] g.2.1,g.2.2.1+g.2.2.2.1.2),(atP (Ê b) [g.1] g.2.1,0,-(g.2.2.1+g.2.2.2.1.1))] ++
 (List.range ((ß b g).length-1)).flatMap fun(k:Nat)=>[(atP (Ê b) [g.1] g.2.1+k,atP (Ê b) [g.1] g.2.1+k+1,0),(atP (Ê b) [g.1] g.2.1+k+1,atP (Ê b) [g.1] g.2.1+k,kL b g ((ß b g)[k]?.getD 0) ((ß b g)[k+1]?.getD 0))]
def cx (b:ë) (c:Cmp):Int:=atP (Ê b) (û c.2.2.1 c.2.2.2.1) c.2.1
def cy (b:ë) (c:Cmp):Int:=atP (Ê b) (û c.2.2.2.1 c.2.2.1) c.2.1
def jx (b:ë) (c:Cmp):List Lk:=[(cy b c,cx b c,(qH b c).2),(cx b c,cy b c,-(qH b c).1)]
def Ζ (b:ë):List Lk:=b.2.1.flatMap (ň b)++b.2.2.2.2.1.flatMap (jx b)
def iz (b:ë) (i:Nat) (g:ò):List (Int×Int):=[(1,(i:Int)),(1,(i:Int))]++(List.range ((ß b g).length-1)).flatMap fun _=>[(2,(i:Int)),(2,(i:Int))]
def C5 (b:ë):List (Int×Int):=(b.2.1.mapIdx (iz b)).flatten++(b.2.2.2.2.1.mapIdx fun i _=>[(3,(i:Int)),(3,(i:Int))]).flatten
section
variable {b:ë}
def adh (h:Ł b) {id day:Int} (hu:HF (ő b) id day=0):(0≤day∧day≤20000)∧∃g,ø b id=some g∧g.2.1≤day:=by
 unfold HF at hu
 split at hu
 ·omega
 ·rename_i hd;simp only[ee,Bool.not_eq_false,JT,inP,cH,decide_eq_true_eq] at hd;exact⟨hd,Ga h hu⟩
def Β {g:ò} {d:Int}:d∈ß b g↔d=g.2.1∨(∃c∈b.2.2.2.2.1,(c.2.2.1.contains g.1)≠(c.2.2.2.1.contains g.1)∧c.2.1=d)∨(∃n∈b.2.2.2.2.2,n.1=g.1∧n.2=d):=by
 unfold ß;rw[oU,Fu];simp only[List.mem_append,List.mem_singleton,List.mem_map,List.mem_filter];constructor
 ·rintro((h|⟨c,⟨h1,h2⟩,h3⟩)|⟨n,⟨h1,h2⟩,h3⟩)
  ·exact .inl h
  ·exact .inr (.inl ⟨c,h1,by simpa using h2,h3⟩)
  ·exact .inr (.inr ⟨n,h1,by simpa using h2,h3⟩)
 ·rintro(h|⟨c,h1,h2,h3⟩|⟨n,h1,h2,h3⟩)
  ·exact .inl (.inl h)
  ·exact .inl (.inr ⟨c,⟨h1,by simpa using h2⟩,h3⟩)
  ·exact .inr ⟨n,⟨h1,by simpa using h2⟩,h3⟩
def Ł.gaugeR (h:Ł b) {g:ò} (hg:g∈b.2.1):NQ g.2.2.2.2.1=true∧(-1000≤g.2.2.2.2.1.1∧g.2.2.2.2.1.1≤1000)∧g.2.2.2.2.1.2≤100∧(1≤g.1∧g.1≤1099511627776)∧(0≤g.2.1∧g.2.1≤20000)∧(1≤g.2.2.1∧g.2.2.1≤1125899906842624)∧(-1073741824≤g.2.2.2.1.1∧g.2.2.2.1.1≤g.2.2.2.1.2∧g.2.2.2.1.2≤1073741824)∧(0≤g.2.2.2.2.2∧g.2.2.2.2.2≤1048576):=(Qp g).1 (h.gauge g hg)
def Ł.day (h:Ł b) {g:ò} (hg:g∈b.2.1) {d:Int} (hd:d∈ß b g):g.2.1≤d∧0≤d∧d≤20000:=by
 have hr:=h.gaugeR hg;have hgo:=qA h.ids hg;rcases Β.1 hd with rfl|⟨c,hc,h1,rfl⟩|⟨n,hn,h1,rfl⟩
 ·have:=hr.2.2.2.2.1; omega
 ·have hn:=(iO c).1 (h.nums hc)
  have hx:g.1∈c.2.2.1++c.2.2.2.1:=by
   rw[cM]
   by_cases h2:g.1∈c.2.2.1
   ·exact .inl h2
   ·refine .inr ?_
    have e1:c.2.2.1.contains g.1=false:=by simpa using h2
    rw[e1] at h1
    have:c.2.2.2.1.contains g.1=true:=by cases hh:c.2.2.2.1.contains g.1<;>simp_all
    simpa using this
  obtain⟨⟨g',h3,h4⟩,_⟩:=h.pile hc hx;rw[hgo] at h3; cases h3;have:=hn.2.1;omega
 ·obtain⟨h2,g',h3,h4⟩:=adh h (h.looks n hn);rw[h1,hgo] at h3; cases h3;omega
def pu (g:ò):g.2.1∈ß b g:=Β.2 (.inl rfl)
def TG (h:Ł b) {g:ò} (hg:g∈b.2.1):(ß b g).length≤59:=by
 have h1:∀l:List ò,g∈l→(ß b g).length≤(l.flatMap fun g=>(ß b g).map fun d=>((g.1,d):Int×Int)).length:=by
  intro l
  induction l with
  |nil=>intro hg; cases hg
  |cons a t ih =>
   intro hg;rw[dz,cJ,dA];rcases cN.1 hg with rfl|hg
   ·omega
   ·have:=ih hg; omega
 have:=h1 b.2.1 hg;have:=h.nodes;unfold Ê at this;omega
def af4 {p:List Int} {d:Int}:0≤atP (Ê b) p d∧atP (Ê b) p d≤(Ê b).length:=by
 unfold atP
 cases p with
 |nil=>simp
 |cons x t =>
  try dsimp only
  cases h:jg (Ê b) x d with
  |none=>simp
  |some j=>have:=(jD h).1; dsimp only; omega
def J7 (h:Ł b) {c:Cmp} (hc:c∈b.2.2.2.2.1):(-1125904000000000≤(qH b c).1∧(qH b c).1≤1125904000000000)∧(-1125904000000000≤(qH b c).2∧(qH b c).2≤1125904000000000):=by
 obtain⟨r1,r2⟩:=h.rates hc;have hn:=(iO c).1 (h.nums hc);have ha:=ţ hn.2.2.2.2.2.1;have hb:=ţ hn.2.2.2.2.2.2;have hf:=h.film;obtain⟨g1,g2⟩:=Rc (QN r1 r2) hn.2.2.2.2.1;have fb:=CO (b:=b) (c:=c) (by omega) (by omega) (by omega) (by omega) (by omega) (by omega);have q1:vc (š b c).1 2000000000 10000:=g1;have q2:vc (š b c).2 2000000000 10000:=g2;have c1:=Hv q1;have c2:=CL q2;have n3:=hn.2.2.1;have n4:=hn.2.2.2.1;unfold qH
 try dsimp only
 omega
def wm (h:Ł b) {g:ò} (hg:g∈b.2.1) {f t:Int} (hf:0≤f):0≤kL b g f t∧kL b g f t≤12*(20001*1048576)+40*1048576:=by
 have hr:=(h.gaugeR hg).2.2.2.2.2.2.2;have h1:=s9 (id:=g.1) (t:=t) hf (x:=b.2.2.2.1) fun l hl=>uH h hl;have h2:(b.2.2.2.1.length:Int)*(20001*1048576)≤12*(20001*1048576):=fE (by have:=h.nL; omega) (by omega)
 have h3:(iX b g.1 f t).length≤40:=by
  unfold iX;rw[List.length_map];exact Nat.le_trans (List.length_filter_le _ _) h.nU
 have h4:=Jw (iX b g.1 f t)
 have hm:0≤((T7 (iX b g.1 f t)).length:Int)*g.2.2.2.2.2∧((T7 (iX b g.1 f t)).length:Int)*g.2.2.2.2.2≤40*1048576 :=
  ⟨gN (by omega) hr.1,f0 (by omega) hr.2 hr.1 (by omega)⟩
 unfold kL;omega
end
def vr {α β:Type} (f:Nat→α→β) {l:List α} {i:Nat} {a:α} (h:l[i]?=some a):(l.take (i+1)).mapIdx f=(l.take i).mapIdx f++[f i a]:=by
 have hi:i<l.length:=(cI.1 h).1
 have:(l.take i).length=i:=by rw[cZ]; omega
 rw[take_succ h,List.mapIdx_append];simp[this]
def FX {α:Type} (f:Nat→List α) (j:Nat):(List.range (j+1)).flatMap f=(List.range j).flatMap f++f j:=by
 rw[fT,fN]; simp
def pR {α:Type} (f:Nat→List α) (n:Nat) (h:∀k,(f k).length=2):((List.range n).flatMap f).length=2*n:=by
 induction n with
 |zero=>rfl
 |succ n ih=>rw[FX,cJ,ih,h]; omega
set_option maxHeartbeats 2000000 in
def Rm {b:ë} (h:Ł b):zS b=some (b,Ê b,(((Ê b).length:Int)+1,Ζ b),C5 b):=by
 unfold zS SH;have hN:=h.nodes;have hG:=h.nG;have hC:=h.nC;rw[JB h.size,À,Ò,Ô (by omega) (by omega)]
 -- lengths of what comes
 have gl:∀g∈b.2.1,(ň b g).length≤120∧∀i,(iz b i g).length≤120:=by
  intro g hg;have:=TG h hg;constructor
  ·unfold ň;rw[List.length_append,pR _ _ (fun _=>rfl)];simp only[List.length_cons,List.length_nil]; omega
  ·intro i;unfold iz;rw[List.length_append,pR _ _ (fun _=>rfl)];simp only[List.length_cons,List.length_nil]; omega
 have gls:∀i,((b.2.1.take i).flatMap (ň b)).length≤1440∧(((b.2.1.take i).mapIdx (iz b)).flatten).length≤1440:=by
  intro i
  induction i with
  |zero=>simp
  |succ i ih =>
   have key:∀i,i≤b.2.1.length→((b.2.1.take i).flatMap (ň b)).length≤i*120∧(((b.2.1.take i).mapIdx (iz b)).flatten).length≤i*120:=by
    intro i
    induction i with
    |zero=>intro _; simp
    |succ i ih =>
     intro hi;have ih:=ih (by omega);have hg:b.2.1[i]?=some b.2.1[i]:=cF hi;have h2:=gl _ (cO hg);have h3:=h2.2 i;rw[vr _ hg,take_succ hg,fN,List.flatten_append,cJ,cJ];simp only[dz,List.flatMap_nil,dh,List.flatten_cons,List.flatten_nil];omega
   rcases dg b.2.1.length (i+1) with h1|h1
   ·rw[dU (by omega)];have:=key b.2.1.length (cG _);rw[fP] at this;omega
   ·have:=key (i+1) h1;omega
 refine ĩ b.2.1 (fun i=>((b.2.1.take i).flatMap (ň b),((b.2.1.take i).mapIdx (iz b)).flatten)) _ rfl (fun i g hi hg kn=>?_) (fun kn=>?_)
 ·try dsimp only
  unfold vW;have hgm:=List.mem_of_getElem? hg;have hr:=h.gaugeR hgm;have hd:=TG h hgm;have hls:=gls i;have hat:=af4 (b:=b) (p:=[g.1]) (d:=g.2.1);rw[Ð hi,È hg];rw[show pr ((b.1.1,b.1.2),b.2.1,b.2.2.1,b.2.2.2.1,b.2.2.2.2.1,b.2.2.2.2.2) g=pr b g from rfl,aff h.size,À];rw[af3 _ _ _ (by dsimp only; omega),À]
  try dsimp only
  have r1:=hr.2.2.2.2.2.1;have r2:=hr.2.2.2.2.2.2.1;rw[Ô (by omega) (by omega),Ô (by omega) (by omega),Ô (by omega) (by omega),Õ (by simp only[cW,dZ]; omega),Am.iff_true,Õ (by simp only[cW,dZ]; omega),Am.iff_true]
  refine ĝ (fun x:Int×List Lk×List (Int×Int)=>∃j:Nat,j+1≤(ß b g).length∧x.1=(j:Int)+1 ∧
   x.2.1=(b.2.1.take i).flatMap (ň b)++([(0,atP (Ê b) [g.1] g.2.1,g.2.2.1+g.2.2.2.1.2),(atP (Ê b) [g.1] g.2.1,0,-(g.2.2.1+g.2.2.2.1.1))] ++
    (List.range j).flatMap fun(k:Nat)=>[(atP (Ê b) [g.1] g.2.1+k,atP (Ê b) [g.1] g.2.1+k+1,0),(atP (Ê b) [g.1] g.2.1+k+1,atP (Ê b) [g.1] g.2.1+k,kL b g ((ß b g)[k]?.getD 0) ((ß b g)[k+1]?.getD 0))]) ∧
   x.2.2=((b.2.1.take i).mapIdx (iz b)).flatten++([(1,(i:Int)),(1,(i:Int))]++(List.range j).flatMap fun _=>[(2,(i:Int)),(2,(i:Int))])) (fun x=>(ß b g).length-x.1.toNat) ?_
   ⟨0,gS (pu g),rfl,by simp,by simp⟩
  rintro⟨x1,ls,ss⟩ ⟨j,hj,e1,e2,e3⟩;dsimp only at e1 e2 e3 ⊢;subst e1
  have hlls:ls.length≤1562:=by
   rw[e2,cJ,cJ,pR _ _ (fun _=>rfl)];simp only[cW,dZ]; omega
  have hlss:ss.length≤1562:=by
   rw[e3,cJ,cJ,pR _ _ (fun _=>rfl)];simp only[cW,dZ]; omega
  rcases dg (j+1) (ß b g).length with hlt|hge
  ·refine .inr ⟨((j:Int)+1+1,_,_),⟨j+1,hlt,by push_cast; rfl,rfl,rfl⟩,by dsimp only; omega,fun kn'=>?_⟩
   try dsimp only
   unfold vV
   have g1:(ß b g)[j]?=some ((ß b g)[j]?.getD 0):=by rw[cF (by omega)]; rfl
   have g2:(ß b g)[j+1]?=some ((ß b g)[j+1]?.getD 0):=by rw[cF hlt]; rfl
   have d1:=h.day hgm (cO g1);have d2:=h.day hgm (cO g2);have lb:=wm h hgm (t:=(ß b g)[j+1]?.getD 0) d1.2.1
   have ec:((j:Int)+1)=((j+1:Nat):Int):=by push_cast; rfl
   rw[ec,Ð hlt,Ô (by omega) (by omega),Ô (by omega) (by omega),Ô (by omega) (by omega),Ô (by omega) (by omega)];rw[show(((j+1:Nat):Int)-1)=((j:Nat):Int) by omega,È g1,È g2];rw[show zT ((b.1.1,b.1.2),b.2.1,b.2.2.1,b.2.2.2.1,b.2.2.2.2.1,b.2.2.2.2.2) (g.1,g.2.1,g.2.2.1,(g.2.2.2.1.1,g.2.2.2.1.2),(g.2.2.2.2.1.1,g.2.2.2.2.1.2),g.2.2.2.2.2) ((ß b g)[j]?.getD 0) ((ß b g)[j+1]?.getD 0)=zT b g ((ß b g)[j]?.getD 0) ((ß b g)[j+1]?.getD 0) from rfl];rw[ajf h hr.2.2.2.2.2.2.2 ⟨by omega,by omega⟩ ⟨by omega,by omega⟩,À,Ô (by omega) (by omega),Ô (by omega) (by omega),Õ (by simp only[cW,dZ]; omega),Am.iff_true,Õ (by simp only[cW,dZ]; omega),Am.iff_true,Ì hlt (by omega)];rw[FX,FX,e2,e3]
   have a1:atP (Ê b) [g.1] g.2.1+((j+1:Nat):Int)-1=atP (Ê b) [g.1] g.2.1+(j:Int):=by push_cast; omega
   have a2:atP (Ê b) [g.1] g.2.1+((j+1:Nat):Int)=atP (Ê b) [g.1] g.2.1+(j:Int)+1:=by push_cast; omega
   have a3:0-(0-kL b g ((ß b g)[j]?.getD 0) ((ß b g)[j+1]?.getD 0))=kL b g ((ß b g)[j]?.getD 0) ((ß b g)[j+1]?.getD 0):=by omega
   rw[a1,a2,a3];simp only[cQ]
  ·refine .inl fun kn'=>?_
   have hje:j+1=(ß b g).length:=by omega
   unfold vV;rw[show((j:Int)+1)=(((ß b g).length:Nat):Int) by rw[←hje]; push_cast; rfl,Þ];dsimp only;rw[Ì hi (by omega)];rw[vr _ hg,take_succ hg,List.flatMap_append,List.flatten_append,e2,e3,show j=(ß b g).length-1 by omega];simp only[List.flatMap_cons,List.flatMap_nil,List.append_nil,List.flatten_cons,List.flatten_nil];rfl
 ·try dsimp only
  unfold vW;rw[Þ,List.take_length];have hls:=gls b.2.1.length;rw[List.take_length] at hls
  have cl:∀i,i≤b.2.2.2.2.1.length→((b.2.2.2.2.1.take i).flatMap (jx b)).length=2*i∧(((b.2.2.2.2.1.take i).mapIdx fun i _=>[((3:Int),(i:Int)),((3:Int),(i:Int))]).flatten).length=2*i:=by
   intro i
   induction i with
   |zero=>intro _; simp
   |succ i ih =>
    intro hi;have ih:=ih (by omega);have hg:b.2.2.2.2.1[i]?=some b.2.2.2.2.1[i]:=cF hi;rw[vr _ hg,take_succ hg,fN,List.flatten_append,cJ,cJ];simp only[dz,List.flatMap_nil,dh,List.flatten_cons,List.flatten_nil,jx,cW,dZ];omega
  refine ĩ b.2.2.2.2.1 (fun i=>(b.2.1.flatMap (ň b)++(b.2.2.2.2.1.take i).flatMap (jx b),(b.2.1.mapIdx (iz b)).flatten++((b.2.2.2.2.1.take i).mapIdx fun i _=>[((3:Int),(i:Int)),((3:Int),(i:Int))]).flatten)) _ (by simp) (fun i c hi hc kn'=>?_) (fun kn'=>?_)
  ·try dsimp only
   unfold vU;have hcm:=List.mem_of_getElem? hc;have hn:=(iO c).1 (h.nums hcm);have ha:=ţ hn.2.2.2.2.2.1;have hb:=ţ hn.2.2.2.2.2.2;have sb:=J7 h hcm;have c1:=cl i (by omega);rw[Ð hi,È hc,ta (by omega) (by omega),À,af3 _ _ _ (by dsimp only; omega),À,ta (by omega) (by omega),À,af3 _ _ _ (by dsimp only; omega),À];rw[show zR ((b.1.1,b.1.2),b.2.1,b.2.2.1,b.2.2.2.1,b.2.2.2.2.1,b.2.2.2.2.2) c=zR b c from rfl,h.says hcm,À];rw[Ô (by omega) (by omega),Õ (by simp only[List.length_append,List.length_cons,List.length_nil]; omega),Am.iff_true,Õ (by simp only[List.length_append,List.length_cons,List.length_nil]; omega),Am.iff_true,Ì hi (by omega),vr _ hc,take_succ hc,List.flatMap_append,List.flatten_append];simp only[List.flatMap_cons,List.flatMap_nil,List.append_nil,List.flatten_cons,List.flatten_nil,List.append_assoc,Int.zero_sub];rfl
  ·try dsimp only
   unfold vU;rw[Þ,List.take_length];rfl
section
variable {ρ:Type}
def wv (w:List Bool) (v:Int):Bool:=w[v.toNat]?.getD false
def ZW {w:List Bool} {u v:Int} (hu:0≤u) (hv:0≤v) (h:u.toNat<w.length) (y:Bool):wv (w.set u.toNat y) v=if v=u then y else wv w v:=by
 unfold wv;rw[List.getElem?_set]
 by_cases hvu:v=u
 ·subst hvu; simp[h]
 ·have:¬u.toNat=v.toNat:=by omega
  simp[hvu,this]
def jh {x:List Int} {v:Int} (h:v.toNat<x.length) (f:Int→Option ρ):ĸ x v.toNat f=f (gv x v):=i9 (WT h) f
def Rh {w:List Bool} {v:Int} (h:v.toNat<w.length) (f:Bool→Option ρ):ĸ w v.toNat f=f (wv w v):=by
 refine i9 ?_ f;unfold wv; rw[List.getElem?_eq_getElem h]; rfl
def ŭ {v:Int} {n:Nat} (h0:0≤v) (h1:v<n) (x:Option ρ):ä ((ile 0 v)&&(ilt v (n:Int))) x=x:=by
 have:((ile 0 v)&&(ilt v (n:Int)))=true:=by simp[ile,ilt,h0,h1]
 rw[this,Am.iff_true]
end
def qw (n least:Int):List Lk→List Int→List Bool→List Int→Bool×List Int×List Bool×List Int
 |[],x,w,q=>(true,x,w,q)
 |l::t,x,w,q =>
  if l.1≠n then qw n least t x w q else
  if gv x l.2.1≤gv x n+l.2.2 then qw n least t x w q else
  if gv x n+l.2.2<least then(false,x.set l.2.1.toNat (gv x n+l.2.2),w,q) else
  if wv w l.2.1 then qw n least t (x.set l.2.1.toNat (gv x n+l.2.2)) w q else qw n least t (x.set l.2.1.toNat (gv x n+l.2.2)) (w.set l.2.1.toNat true) (q++[l.2.1])
structure iM (L:List Lk) (N:Nat) (M:Int):Prop where
 inr:InR L N
 noloop:∀l∈L,l.1≠l.2.1
 most:∀l∈L,-M≤l.2.2∧l.2.2≤M
 len:L.length≤400
 nodes:N≤1000
 m0:0≤M
 m1:M≤4503599627370496
set_option maxHeartbeats 1000000 in
def ahi {ρ:Type} {L:List Lk} {N:Nat} {M:Int} (hL:iM L N M) {n least:Int} (hn:0≤n∧n<N) {x:List Int} {w:List Bool} {q:List Int} (hx:x.length=N) (hw:w.length=N) (hq:q.length≤1000000)
 (hb : -2305843009213693952≤gv x n∧gv x n≤2305843009213693952) (K0:(Val (.pair .bool (.pair (.slice tI) (.pair (.slice .bool) (.slice tI)))))→Option ρ) (K1:(Val (.pair (.slice tI) (.pair (.slice .bool) (.slice tI))))→Option ρ) :
 Ë (fun(v47:(Val (.pair tI (.pair (.slice tI) (.pair (.slice .bool) (.slice tI)))))) kk52=>jp [] least n L (Û L) v47.1 v47.2.1 v47.2.2.1 v47.2.2.2 (fun u48 u49 u50 u51=>kk52 (u48,u49,u50,u51)) K0 K1) ((0:Int),x,w,q) =
  match qw n least L x w q with
  |(true,r)=>K1 r
  |(false,r)=>K0 (false,r):=by
 have hlen:=hL.len
 refine JJ L (fun i (s:List Int×List Bool×List Int) t=>match qw n least t s.1 s.2.1 s.2.2 with|(true,r)=>K1 r|(false,r)=>K0 (false,r))
  (fun i s=>s.1.length=N∧s.2.1.length=N∧gv s.1 n=gv x n∧s.2.2.length≤1000000+i) (fun s hs kn=>?_) (fun i l t s hd hi hl hI kn hk=>?_) (s:=(x,w,q)) ⟨hx,hw,rfl,by simpa using hq⟩
 ·try dsimp only
  unfold jp;rw[Þ];rfl
 ·obtain⟨y,u,p⟩:=s;obtain⟨h1,h2,h3,h4⟩:=hI;dsimp only at h1 h2 h3 h4 hk ⊢;have hmem:l∈L:=List.mem_of_getElem? hl;have hr:=hL.inr l hmem;have hm:=hL.most l hmem;have hm1:=hL.m1;have hnl:=hL.noloop l hmem;unfold jp;rw[Ð hi,È hl];unfold qw
  by_cases hln:l.1=n
  ·have e0:ine l.1 n=false:=by simp[ine,hln]
   rw[Í e0];have e1:∀(f:Bool→Option ρ) (g:Option ρ),NK (k:=tI) (v:=.bool) (i:Int) [] f g=g:=fun f g=>rfl;rw[e1,if_neg (by simp[hln])]
   have tn:n.toNat<y.length:=by omega
   have tt:l.2.1.toNat<y.length:=by omega
   have tu:l.2.1.toNat<u.length:=by omega
   rw[ŭ hn.1 (by omega),jh tn,Ô (by omega) (by omega),ŭ hr.2.1 (by omega),jh tt,Ď]
   by_cases hge:gv y l.2.1≤gv y n+l.2.2
   ·rw[if_pos (by simpa[ige] using hge),if_pos hge,Ì hi (by omega)];exact hk (y,u,p) ⟨h1,h2,h3,by dsimp only; omega⟩
   ·rw[if_neg (by simpa[ige] using hge),if_neg hge]
    have hset:gv (y.set l.2.1.toNat (gv y n+l.2.2)) n=gv x n:=by
     rw[sr hr.2.1 hn.1 tt,if_neg (fun h=>hnl (hln.trans h)),h3]
    have hself:gv (y.set l.2.1.toNat (gv y n+l.2.2)) l.2.1=gv y n+l.2.2:=by
     rw[sr hr.2.1 hr.2.1 tt,if_pos rfl]
    rw[ŭ hn.1 (by omega),jh tn,Ô (by omega) (by omega),ŭ hr.2.1 (by omega),jh tt];rw[show(î (List.set y l.2.1.toNat (gv y n+l.2.2)))=((y.length:Nat):Int) by simp[î]];rw[ŭ hr.2.1 (by omega),jh (by simpa using tt),hself,Ď]
    by_cases hlt:gv y n+l.2.2<least
    ·rw[if_pos (by simpa[ilt] using hlt),if_pos hlt]
    ·rw[if_neg (by simpa[ilt] using hlt),if_neg hlt,ŭ hr.2.1 (by omega),Rh tu,Ď]
     cases hwv:wv u l.2.1 with
     |true =>
      rw[if_neg (by simp),if_pos rfl,Ì hi (by omega)];exact hk (y.set l.2.1.toNat (gv y n+l.2.2),u,p) ⟨by simpa using h1,h2,hset,by dsimp only; omega⟩
     |false =>
      rw[if_pos (by simp),if_neg (by simp),Õ (by simp only[dG]; omega),Am.iff_true,ŭ hr.2.1 (by omega),Rh tu,Ì hi (by omega)];exact hk (y.set l.2.1.toNat (gv y n+l.2.2),u.set l.2.1.toNat true,p++[l.2.1]) ⟨by simpa using h1,by simpa using h2,hset,by simp only[cJ,dG]; omega⟩
  ·have e0:ine l.1 n=true:=by simp[ine,hln]
   rw[Ø e0,if_pos hln,Ì hi (by omega)];exact hk (y,u,p) ⟨h1,h2,h3,by dsimp only; omega⟩
structure ah7 (N:Nat) (n least:Int) (L:List Lk) (x:List Int) (q:List Int) (x':List Int) (w':List Bool) (q':List Int):Prop where
 lx:x'.length=N
 lw:w'.length=N
 same:gv x' n=gv x n
 le:∀v:Int,0≤v→v<N→gv x' v≤gv x v
 link:∀v m,(n,v,m)∈L→gv x' v≤gv x n+m
 chg:∀v:Int,0≤v→v<N→gv x' v=gv x v∨(v∈q'∧gv x' v<gv x v∧∃m,(n,v,m)∈L∧gv x' v=gv x n+m∧least≤gv x' v)
 new:∃l,q'=q++l∧∀v∈l,(0≤v∧v<N)∧gv x' v<gv x v
 nodup:q'.Nodup
 waits:∀v:Int,0≤v→v<N→(wv w' v=true↔v∈q')
def kR {N:Nat} {n least:Int} (hn:0≤n∧n<N):∀{L:List Lk},InR L N→(∀l∈L,l.1≠l.2.1)→∀{x:List Int} {w:List Bool} {q:List Int},x.length=N→w.length=N→q.Nodup→(∀v:Int,0≤v→v<N→(wv w v=true↔v∈q)) →
 ∀{x':List Int} {w':List Bool} {q':List Int},qw n least L x w q=(true,x',w',q')→ah7 N n least L x q x' w' q'
 |[],_,_,x,w,q,hx,hw,hq,hwq,x',w',q',h=>by
  cases h;exact⟨hx,hw,rfl,fun _ _ _=>dP _,fun _ _ h=>(by cases h),fun _ _ _=>.inl rfl,⟨[],by simp,fun _ h=>by cases h⟩,hq,hwq⟩
 |l::t,hL,hnl,x,w,q,hx,hw,hq,hwq,x',w',q',h=>by
  have hLt:InR t N:=fun l hl=>hL l (by simp[hl]);have hnt:∀l∈t,l.1≠l.2.1:=fun l hl=>hnl l (by simp[hl]);have hr:=hL l (by simp);have hl0:=hnl l (by simp);unfold qw at h
  split at h
  ·rename_i hne;have a:=kR hn hLt hnt hx hw hq hwq h
   exact⟨a.lx,a.lw,a.same,a.le,fun v m hm=>by
    rcases cN.1 hm with rfl|hm
    ·exact(hne rfl).elim
    ·exact a.link v m hm,fun v h0 h1=>(a.chg v h0 h1).imp id fun⟨g1,g2,m,g3,g4⟩=>⟨g1,g2,m,by simp[g3],g4⟩,a.new,a.nodup,a.waits⟩
  ·rename_i hne
   have hln:l.1=n:=by simpa using hne
   split at h
   ·rename_i hle;have a:=kR hn hLt hnt hx hw hq hwq h
    exact⟨a.lx,a.lw,a.same,a.le,fun v m hm=>by
     rcases cN.1 hm with rfl|hm
     ·have:=a.le v hr.2.1 hr.2.2; simp only at hle; omega
     ·exact a.link v m hm,fun v h0 h1=>(a.chg v h0 h1).imp id fun⟨g1,g2,m,g3,g4⟩=>⟨g1,g2,m,by simp[g3],g4⟩,a.new,a.nodup,a.waits⟩
   ·rename_i hgt
    split at h
    ·cases h
    ·rename_i hls
     have tt:l.2.1.toNat<x.length:=by omega
     have tw:l.2.1.toNat<w.length:=by omega
     have hy:(x.set l.2.1.toNat (gv x n+l.2.2)).length=N:=by simpa using hx
     have hyn:gv (x.set l.2.1.toNat (gv x n+l.2.2)) n=gv x n:=by
      rw[sr hr.2.1 hn.1 tt,if_neg (fun h=>hl0 (hln.trans h))]
     have hyv:∀v,0≤v→gv (x.set l.2.1.toNat (gv x n+l.2.2)) v=if v=l.2.1 then gv x n+l.2.2 else gv x v:=fun v h0=>sr hr.2.1 h0 tt _
     have hlm:(n,l.2.1,l.2.2)∈l::t:=by rw[←hln]; simp
     -- what both ways have in common
     have fin:∀{w1:List Bool} {q1:List Int},ah7 N n least t (x.set l.2.1.toNat (gv x n+l.2.2)) q1 x' w' q'→l.2.1∈q1→(∃l',q1=q++l'∧∀v∈l',v=l.2.1)→ah7 N n least (l::t) x q x' w' q':=by
      intro w1 q1 a hmem hq1;obtain⟨new,hnew,hnv⟩:=a.new;obtain⟨l',hl',hlv⟩:=hq1
      have hto:gv x' l.2.1≤gv x n+l.2.2:=by
       have:=a.le l.2.1 hr.2.1 hr.2.2;rw[hyv _ hr.2.1,if_pos rfl] at this;exact this
      refine⟨a.lx,a.lw,a.same.trans hyn,fun v h0 h1=>?_,fun v m hm=>?_,fun v h0 h1=>?_,⟨l'++new,by rw[hnew,hl',cQ],fun v hv=>?_⟩,a.nodup,a.waits⟩
      ·have:=a.le v h0 h1;rw[hyv v h0] at this
       split at this
       ·rename_i e; subst e; omega
       ·exact this
      ·rcases cN.1 hm with rfl|hm
       ·exact hto
       ·have:=a.link v m hm
        rwa [hyn] at this
      ·rcases a.chg v h0 h1 with g|⟨g1,g2,m,g3,g4,g5⟩
       ·rw[hyv v h0] at g
        split at g
        ·rename_i e;subst e;exact .inr ⟨by rw[hnew]; exact dD _ hmem,by omega,l.2.2,hlm,g,by omega⟩
        ·exact .inl g
       ·rw[hyv v h0] at g2;rw[hyn] at g4;refine .inr ⟨g1,?_,m,by simp[g3],g4,g5⟩
        split at g2
        ·rename_i e; subst e; omega
        ·exact g2
      ·rcases cM.1 hv with hv|hv
       ·rw[hlv v hv]; exact⟨hr.2,by omega⟩
       ·obtain⟨g1,g2⟩:=hnv v hv;rw[hyv v g1.1] at g2;refine⟨g1,?_⟩
        split at g2
        ·rename_i e; subst e; omega
        ·exact g2
     split at h
     ·rename_i hwt;exact fin (w1:=w) (kR hn hLt hnt hy hw hq hwq h) ((hwq _ hr.2.1 hr.2.2).1 hwt) ⟨[],by simp,fun _ h=>by cases h⟩
     ·rename_i hwt;have hnq:l.2.1∉q:=fun hc=>hwt ((hwq _ hr.2.1 hr.2.2).2 hc);refine fin (w1:=w.set l.2.1.toNat true) (kR hn hLt hnt hy (by simpa using hw) ?_ ?_ h) (by simp) ⟨[l.2.1],rfl,fun v hv=>by simpa using hv⟩
      ·rw[List.nodup_append];exact⟨hq,by simp,fun a ha b hb=>by simp at hb; subst hb; exact fun e=>hnq (e▸ha)⟩
      ·intro v h0 h1;rw[ZW hr.2.1 h0 tw]
       by_cases hv:v=l.2.1
       ·simp[hv]
       ·simp only[hv,if_false,cM,cP,or_false];exact hwq v h0 h1
def oo {n least:Int}:∀{L:List Lk},(∀l∈L,l.1≠l.2.1)→(∀l∈L,0≤l.2.1)→0≤n→∀{x:List Int} {w:List Bool} {q:List Int} {r},qw n least L x w q=(false,r)→∃v m,(n,v,m)∈L∧gv x n+m<least
 |[],_,_,_,x,w,q,r,h=>by cases h
 |l::t,hnl,h0,hn,x,w,q,r,h=>by
  have hnt:∀l∈t,l.1≠l.2.1:=fun l hl=>hnl l (by simp[hl]);have h0t:∀l∈t,0≤l.2.1:=fun l hl=>h0 l (by simp[hl]);have up:(∃v m,(n,v,m)∈t∧gv x n+m<least)→∃v m,(n,v,m)∈l::t∧gv x n+m<least:=fun⟨v,m,g1,g2⟩=>⟨v,m,by simp[g1],g2⟩;unfold qw at h
  split at h
  ·exact up (oo hnt h0t hn h)
  ·rename_i hne
   have hln:l.1=n:=by simpa using hne
   split at h
   ·exact up (oo hnt h0t hn h)
   ·split at h
    ·rename_i hlt;exact⟨l.2.1,l.2.2,by rw[←hln]; simp,hlt⟩
    ·have hyn:gv (x.set l.2.1.toNat (gv x n+l.2.2)) n=gv x n:=by
      unfold gv;rw[List.getElem?_set];have h1:=hnl l (by simp);have h2:=h0 l (by simp)
      have:¬l.2.1.toNat=n.toNat:=by omega
      simp[this]
     split at h
     ·have:=oo hnt h0t hn h;rw[hyn] at this;exact up this
     ·have:=oo hnt h0t hn h;rw[hyn] at this;exact up this
def aay {ρ:Type} {L:List Lk} {N:Nat} {M:Int} (hL:iM L N M) {n least:Int} (hn:0≤n∧n<N) {x:List Int} {w:List Bool} {t rest:List Int} (hx:x.length=N) (hw:w.length=N) (ht:t.length=N) (hq:rest.length≤1000000)
 (hb : -2305843009213693952≤gv x n∧gv x n≤2305843009213693952) (htn:0≤gv t n∧gv t n≤1000000) (kn:List Int→List Bool→List Int→List Int→Option ρ) (k0:(Val (.pair .bool (.pair (.slice tI) (.pair (.slice .bool) (.pair (.slice tI) (.slice tI))))))→Option ρ) :
 Ĭ [] least (N:Int) L x w t (n::rest) kn k0 =
  if (N:Int)+1<gv t n+1 then k0 (false,x,w.set n.toNat false,t.set n.toNat (gv t n+1),rest) else
  match qw n least L x (w.set n.toNat false) rest with
  |(true,x',w',q')=>kn x' w' (t.set n.toNat (gv t n+1)) q'
  |(false,x',w',q')=>k0 (false,x',w',t.set n.toNat (gv t n+1),q'):=by
 have hN:=hL.nodes
 have tn:n.toNat<x.length:=by omega
 have tw:n.toNat<w.length:=by omega
 have tt:n.toNat<t.length:=by omega
 unfold Ĭ
 have e0:ieq (Û (n::rest)) 0=false:=by
  rw[Ò];simp only[ieq,cW,beq_eq_false_iff_ne,ne_eq];omega
 have e1:ilt (0:Int) (î (n::rest))=true:=by simp[ilt,î]
 have e2:ile (1:Int) (î (n::rest))=true:=by simp[ile,î]; omega
 have e3:decide (1+(List.length (n::rest)-1)=List.length (n::rest))=true:=by simp; omega
 rw[Í e0,ċ e1];rw[show ĸ (n::rest) 0=fun(f:Int→Option ρ)=>f n from rfl]
 try dsimp only
 rw[ċ e2,ċ e3,ŭ hn.1 (by omega),Rh tw,ŭ hn.1 (by omega),jh tt,Ô (by omega) (by omega),ŭ hn.1 (by omega),jh tt];rw[show(î (List.set t n.toNat (gv t n+1)))=((t.length:Nat):Int) by simp[î]];rw[ŭ hn.1 (by omega),jh (by simpa using tt),sr hn.1 hn.1 tt,if_pos rfl,Ô (by omega) (by omega),Ď];rw[show List.drop 1 (n::rest)=rest from rfl]
 by_cases hlt:(N:Int)+1<gv t n+1
 ·rw[if_pos (by simpa[igt] using hlt),if_pos hlt]
 ·rw[if_neg (by simpa[igt] using hlt),if_neg hlt];rw[ahi hL hn hx (w:=w.set n.toNat false) (by simpa using hw) hq hb];generalize qw n least L x (w.set n.toNat false) rest=r;obtain⟨b,x',w',q'⟩:=r
  cases b<;>rfl
def adZ {ρ:Type} {L:List Lk} {N:Int} {least:Int} {x:List Int} {w:List Bool} {t:List Int} (kn:List Int→List Bool→List Int→List Int→Option ρ) (k0:(Val (.pair .bool (.pair (.slice tI) (.pair (.slice .bool) (.pair (.slice tI) (.slice tI))))))→Option ρ) :
 Ĭ [] least N L x w t [] kn k0=k0 (true,x,w,t,[]):=by
 unfold Ĭ
 have e0:ieq (Û ([]:List Int)) 0=true:=by rw[Ò]; rfl
 rw[Ø e0]
def Th (N:Nat) (t:List Int):Nat:=(t.map fun a=>((N:Int)+2-a).toNat).sum
def aaM (N:Nat):∀(t:List Int) (i:Nat) (a b:Int),t[i]?=some a→a<b→a<(N:Int)+2→Th N (t.set i b)<Th N t
 |a0::t,0,a,b,h,h1,h2=>by
  simp at h; subst h;simp only[Th,List.set_cons_zero,eE,List.sum_cons];omega
 |a0::t,i+1,a,b,h,h1,h2=>by
  have:=aaM N t i a b (by simpa using h) h1 h2;simp only[Th] at this;simp only[Th,List.set_cons_succ,eE,List.sum_cons];omega
def WL {N:Nat} {t:List Int} {n:Int} (hn:n.toNat<t.length) (h:gv t n≤(N:Int)+1):Th N (t.set n.toNat (gv t n+1))<Th N t :=
 aaM N t n.toNat (gv t n) _ (WT hn) (by omega) (by omega)
structure ac2 (L:List Lk) (S:Int→Prop) (N:Nat) (M:Int) (k:Nat) (A B:List Int) (x:List Int) (w:List Bool) (t q:List Int):Prop where
 q_eq:q=A++B
 lx:x.length=N
 lw:w.length=N
 lt:t.length=N
 nodup:q.Nodup
 rng:∀v∈q,0≤v∧v<N
 waits:∀v:Int,0≤v→v<N→(wv w v=true↔v∈q)
 t0:∀v:Int,0≤v→v<N→0≤gv t v∧gv t v≤(k:Int)+1
 tA:∀v∈A,gv t v≤k
 low:∀vs v d,Wl L S vs v d→vs.length≤k→gv x v≤d
 nxt:∀vs u d,Wl L S vs u d→vs.length≤k→u∉A→∀v m,(u,v,m)∈L→gv x v≤d+m
 rel:∀u:Int,0≤u→u<N→u∉q→gv x u≠Ŝ→∀v m,(u,v,m)∈L→gv x v≤gv x u+m
 att:∀v:Int,0≤v→v<N→gv x v≠Ŝ→∃vs,Wl L S vs v (gv x v)
 bd:∀v:Int,0≤v→v<N→gv x v=Ŝ∨gv x v≤((k:Int)+1)*M
 bA:∀v∈A,gv x v≤(k:Int)*M
 fin:∀v∈q,gv x v<Ŝ
 kN:k+1≤N
 last:k+1=N→B=[]
section
variable {L:List Lk} {S:Int→Prop} {N:Nat} {M:Int} {p:Int→Int} {k:Nat} {A B x:List Int} {w:List Bool} {t q:List Int}
def JE {a b:Nat} {M:Int} (h:a≤b) (hM:0≤M):(a:Int)*M≤(b:Int)*M:=fE (by omega) hM
def Wl.lt_free (hL:iM L N M) (hNM:N*M<Ŝ) {vs:List Int} {v d:Int} (hw:Wl L S vs v d) (h:vs.length≤N):d<Ŝ:=by
 have h1:=hw.high fun l hl=>(hL.most l hl).2;have h2:=JE h hL.m0;omega
def ac2.next (hL:iM L N M) (hNM:N*M<Ŝ) (hS:∀v,S v→0≤v∧v<N) (h:ac2 L S N M k [] B x w t q) (hB:B≠[]):ac2 L S N M (k+1) B [] x w t q:=by
 have hM:=hL.m0
 have hq:q=B:=by simpa using h.q_eq
 have hk:k+1≠N:=fun e=>hB (h.last e);have hkN:=h.kN
 have low':∀vs v d,Wl L S vs v d→vs.length≤k+1→gv x v≤d:=by
  intro vs v d hw hl
  cases hw with
  |nil hs=>exact h.low [] v 0 (.nil hs) (by simp)
  | @step vs u _ m d hw hlk=>exact h.nxt vs u d hw (by simpa using hl) (by simp) v m hlk
 refine⟨by simp[hq],h.lx,h.lw,h.lt,h.nodup,h.rng,h.waits,fun v h0 h1=>⟨(h.t0 v h0 h1).1,by have:=(h.t0 v h0 h1).2; push_cast; omega⟩,fun v hv=>?_,low',fun vs u d hw hl hu v m hlk=>?_,h.rel,h.att,fun v h0 h1=>?_,fun v hv=>?_,h.fin,by omega,fun _=>rfl⟩
 ·have:=h.rng v (by rw[hq]; exact hv);have:=(h.t0 v this.1 this.2).2;push_cast; omega
 ·have h1:=low' vs u d hw hl;have h2:=hw.lt_free hL hNM (by omega);have h3:=(hw.range hL.inr hS).1;have:=h.rel u h3.1 h3.2 (by rw[hq]; exact hu) (by omega) v m hlk;omega
 ·rcases h.bd v h0 h1 with h2|h2
  ·exact .inl h2
  ·refine .inr ?_;have:=JE (show k+1≤k+1+1 by omega) hM;push_cast at this ⊢;omega
 ·have h1:=h.rng v (by rw[hq]; exact hv);have h2:=h.fin v (by rw[hq]; exact hv);rcases h.bd v h1.1 h1.2 with h3|h3
  ·omega
  ·push_cast; exact h3
def ac2.step {n:Int} {A':List Int} {least:Int} {x':List Int} {w':List Bool} {q':List Int} (hL:iM L N M) (hNM:N*M<Ŝ) (hp:Pot L p) (hS:∀v,S v→0≤v∧v<N) (h:ac2 L S N M k (n::A') B x w t q)
 (ha:ah7 N n least L x (A'++B) x' w' q'):∃B',ac2 L S N M k A' B' x' w' (t.set n.toNat (gv t n+1)) q':=by
 have hM:=hL.m0
 have hq:q=n::(A'++B):=by simpa using h.q_eq
 have hkN:=h.kN;have hnr:=h.rng n (by rw[hq]; simp);have hnf:=h.fin n (by rw[hq]; simp)
 have hnd:n∉A'++B:=by have:=h.nodup; rw[hq,eM] at this; exact this.1
 have htn:n.toNat<t.length:=by have:=h.lt; omega
 have tset:∀v,0≤v→gv (t.set n.toNat (gv t n+1)) v=if v=n then gv t n+1 else gv t v:=fun v h0=>sr hnr.1 h0 htn _
 have hkM:((k:Int)+1)*M<Ŝ:=by
  have:=JE hkN hM;push_cast at this;omega
 have xle:∀v:Int,0≤v→v<N→gv x v≤Ŝ:=fun v h0 h1=>by rcases h.bd v h0 h1 with h2|h2<;>omega
 obtain⟨l,hl,hlv⟩:=ha.new
 have att':∀v:Int,0≤v→v<N→gv x' v≠Ŝ→∃vs,Wl L S vs v (gv x' v):=by
  intro v h0 h1 hne;rcases ha.chg v h0 h1 with g|⟨_,_,m,g3,g4,_⟩
  ·rw[g] at hne ⊢; exact h.att v h0 h1 hne
  ·obtain⟨vs,hw⟩:=h.att n hnr.1 hnr.2 (by omega);rw[g4]; exact⟨_,hw.step g3⟩
 refine⟨B++l,by rw[hl,cQ],ha.lx,ha.lw,by rw[fk]; exact h.lt,ha.nodup,fun v hv=>?_,ha.waits,fun v h0 h1=>?_,fun v hv=>?_,fun vs v d hw hlen=>?_,fun vs u d hw hlen hu v m hlk=>?_,
  fun u h0 h1 hu hf v m hlk=>?_,att',fun v h0 h1=>?_,fun v hv=>?_,fun v hv=>?_,hkN,fun hk=>?_⟩
 ·rw[hl] at hv;rcases cM.1 hv with hv|hv
  ·exact h.rng v (by rw[hq]; simp only[cN]; exact .inr hv)
  ·exact(hlv v hv).1
 ·rw[tset v h0];have h2:=h.t0 v h0 h1
  split
  ·have h3:=h.tA n (by simp);have h4:=h.t0 n hnr.1 hnr.2;omega
  ·exact h2
 ·have h1:=h.rng v (by rw[hq]; simp[hv]);rw[tset v h1.1,if_neg (fun e=>hnd (by rw[←e]; simp[hv]))];exact h.tA v (by simp[hv])
 ·have h1:=h.low vs v d hw hlen;have h2:=(hw.range hL.inr hS).1;have:=ha.le v h2.1 h2.2;omega
 ·have hvr:=(hL.inr _ hlk).2
  by_cases hun:u=n
  ·subst hun;have h1:=ha.link v m hlk;have h2:=h.low vs u d hw hlen;omega
  ·have h1:=h.nxt vs u d hw hlen (by simp[hun,hu]) v m hlk;have:=ha.le v hvr.1 hvr.2;omega
 ·have hvr:=(hL.inr _ hlk).2
  have heq:gv x' u=gv x u:=by
   rcases ha.chg u h0 h1 with g|⟨g,_⟩
   ·exact g
   ·exact(hu g).elim
  by_cases hun:u=n
  ·subst hun;have h1:=ha.link v m hlk;omega
  ·have hur:u∉q:=by
    rw[hq];intro hc;rcases cN.1 hc with e|hc
    ·exact hun e
    ·exact hu (by rw[hl]; exact dD _ hc)
   have h2:=h.rel u h0 h1 hur (by rw[←heq]; exact hf) v m hlk;have:=ha.le v hvr.1 hvr.2;omega
 ·rcases ha.chg v h0 h1 with g|⟨_,_,m,g3,g4,_⟩
  ·rw[g]; exact h.bd v h0 h1
  ·have h2:=h.bA n (by simp);have h3:=(hL.most _ g3).2;simp only at h3;refine .inr ?_;rw[g4,gn,gD];omega
 ·have h1:=h.rng v (by rw[hq]; simp[hv]);have h2:=h.bA v (by simp[hv]);have:=ha.le v h1.1 h1.2;omega
 ·rw[hl] at hv;rcases cM.1 hv with hv|hv
  ·have h1:=h.rng v (by rw[hq]; simp only[cN]; exact .inr hv);have h2:=h.fin v (by rw[hq]; simp only[cN]; exact .inr hv);have:=ha.le v h1.1 h1.2;omega
  ·obtain⟨g1,g2⟩:=hlv v hv;have:=xle v g1.1 g1.2;omega
 ·rw[h.last hk]
  cases l with
  |nil=>rfl
  |cons v l =>
   exfalso;obtain⟨g1,g2⟩:=hlv v (by simp);have:=xle v g1.1 g1.2;obtain⟨vs,hw⟩:=att' v g1.1 g1.2 (by omega);obtain⟨vs',d',k1,k2,k3⟩:=hw.simple hp;have k4:=k1.short hL.inr hS k3;have:=h.low vs' v d' k1 (by omega);omega
def ac2.done (hL:iM L N M) (hNM:N*M<Ŝ) (hp:Pot L p) (hS:∀v,S v→0≤v∧v<N) (h:ac2 L S N M k A B x w t []):ac4 L S N (gv x):=by
 have hkN:=h.kN;have hM:=hL.m0
 have hkM:((k:Int)+1)*M<Ŝ:=by
  have:=JE hkN hM;push_cast at this;omega
 have key:∀vs v d,Wl L S vs v d→vs.length+1≤N→gv x v≤d:=by
  intro vs v d hw
  induction hw with
  |nil hs=>intro _; exact h.low [] _ 0 (.nil hs) (by simp)
  | @step vs u v m d hw hlk ih =>
   intro hlen;simp only[cW] at hlen;have h1:=ih (by omega);have h2:=hw.lt_free hL hNM (by omega);have h3:=(hw.range hL.inr hS).1;have:=h.rel u h3.1 h3.2 (by simp) (by omega) v m hlk;omega
 refine⟨h.att,fun v vs d hw=>?_,fun v h0 h1=>?_⟩
 ·obtain⟨vs',d',k1,k2,k3⟩:=hw.simple hp;have:=key vs' v d' k1 (k1.short hL.inr hS k3);omega
 ·rcases h.bd v h0 h1 with h2|h2<;>omega
def Up {ρ:Type} {r:Option ρ} (hL:iM L N M) (hNM:N*M<Ŝ) (hp:Pot L p) (hS:∀v,S v→0≤v∧v<N) (k0:(Val (.pair .bool (.pair (.slice tI) (.pair (.slice .bool) (.pair (.slice tI) (.slice tI))))))→Option ρ)
 (hK:∀x w t q,x.length=N→ac4 L S N (gv x)→k0 (true,x,w,t,q)=r) (h:ac2 L S N M k A B x w t q) :
 Ë (fun(v64:(Val (.pair (.slice tI) (.pair (.slice .bool) (.pair (.slice tI) (.slice tI)))))) kk69=>Ĭ [] (JD L) (N:Int) L v64.1 v64.2.1 v64.2.2.1 v64.2.2.2 (fun u65 u66 u67 u68=>kk69 (u65,u66,u67,u68)) k0) (x,w,t,q)=r:=by
 refine ĝ (fun s:List Int×List Bool×List Int×List Int=>∃k A B,ac2 L S N M k A B s.1 s.2.1 s.2.2.1 s.2.2.2) (fun s=>Th N s.2.2.1) ?_ ⟨k,A,B,h⟩;rintro⟨x,w,t,q⟩ ⟨k,A,B,h⟩;dsimp only at h ⊢;have hN:=hL.nodes
 cases q with
 |nil=>exact .inl fun kn=>by rw[adZ]; exact hK x w t [] h.lx (h.done hL hNM hp hS)
 |cons n rest =>
  -- the phase in which the first one is
  have hph:∃k A' B,ac2 L S N M k (n::A') B x w t (n::rest):=by
   cases A with
   |nil =>
    have hB:B=n::rest:=by simpa using h.q_eq.symm
    subst hB;exact⟨k+1,rest,[],h.next hL hNM hS (by simp)⟩
   |cons a A' =>
    have:=h.q_eq;simp only[ft,List.cons.injEq] at this;obtain⟨rfl,_⟩:=this;exact⟨k,A',B,h⟩
  clear h k A B;obtain⟨k,A',B,h⟩:=hph
  have hrest:rest=A'++B:=by have:=h.q_eq; simpa using this
  have hnr:=h.rng n (by simp);have hnf:=h.fin n (by simp);have hkN:=h.kN;have h1:=h.tA n (by simp);have h2:=h.t0 n hnr.1 hnr.2;obtain⟨vs,hw⟩:=h.att n hnr.1 hnr.2 (by omega);have hlow:=hw.low' hp
  have hneg : -(400*4503599627370496)≤JD L:=by
   have:∀L':List Lk,(∀l∈L',-M≤l.2.2)→-((L'.length:Int)*M)≤JD L':=by
    intro L'
    induction L' with
    |nil=>intro _; simp[JD,IB]
    |cons l t ih =>
     intro hh;have i1:=ih fun l hl=>hh l (by simp[hl]);have i2:=hh l (by simp);have i3:=hL.m0;unfold JD at i1 ⊢;simp only[IB,if_true,List.length_cons,Int.natCast_succ,Int.add_mul,Int.one_mul];omega
   have h3:=this L fun l hl=>(hL.most l hl).1;have h4:(L.length:Int)*M≤400*4503599627370496:=f0 (by have:=hL.len; omega) hL.m1 hL.m0 (by omega);omega
  have hrl:rest.length≤1000000:=by
   have:=aao N (n::rest) h.nodup h.rng;simp only[cW] at this;omega
  refine .inr ?_
  have hw':(w.set n.toNat false).length=N:=by rw[fk]; exact h.lw
  cases hr:qw n (JD L) L x (w.set n.toNat false) rest with
  |mk b r' =>
  obtain⟨x',w',q'⟩:=r'
  cases b with
  |false =>
   exfalso;obtain⟨v,m,g1,g2⟩:=oo hL.noloop (fun l hl=>(hL.inr l hl).2.1) hnr.1 hr;have:=(hw.step g1).low' hp;omega
  |true =>
   have hnd:=h.nodup;rw[eM] at hnd
   have ha:=kR hnr hL.inr hL.noloop h.lx hw' hnd.2 (fun v h0 h1=>by
    rw[ZW hnr.1 h0 (by have:=h.lw; omega)]
    by_cases hv:v=n
    ·subst hv; simp[hnd.1]
    ·rw[if_neg hv,h.waits v h0 h1]
     simp[hv]) hr
   rw[hrest] at ha;obtain⟨B',hB'⟩:=h.step hL hNM hp hS ha;refine⟨(x',w',t.set n.toNat (gv t n+1),q'),⟨k,A',B',hB'⟩,WL (by have:=h.lt; omega) (by omega),fun kn=>?_⟩;have hF:Ŝ=1152921504606846976:=rfl
   rw[aay hL hnr h.lx h.lw h.lt hrl (by constructor<;>omega) (by constructor<;>omega),if_neg (by omega),hr]
end
def Kv (f:Lk→Bool):∀(L L':List Lk),IB f (L++L')=IB f L+IB f L'
 |[],L'=>by simp[IB]
 |l::t,L'=>by
  simp only[ft,IB,Kv f t L'];omega
def Vb {L:List Lk} {i:Nat} {l:Lk} (h:L[i]?=some l):JD (L.take (i+1))=JD (L.take i)+min l.2.2 0:=by
 rw[take_succ h,JD,JD,Kv];simp[IB]
def imin0 (e:Int):aaR e 0=min e 0:=by
 unfold aaR
 split<;>omega
def Yf {L:List Lk} {M:Int} (h:∀l∈L,-M≤l.2.2) (hM:0≤M) : -((L.length:Int)*M)≤JD L:=by
 induction L with
 |nil=>simp[JD,IB]
 |cons l t ih =>
  have i1:=ih fun l hl=>h l (by simp[hl]);have i2:=h l (by simp);unfold JD at i1 ⊢;simp only[IB,if_true,List.length_cons,Int.natCast_succ,Int.add_mul,Int.one_mul];omega
def ajc (L:List Lk):JD L≤0:=vp _ L
section
variable {ρ:Type} {L:List Lk} {N:Nat} {M:Int}
def aaO (hL:iM L N M) (k0:Int→Option ρ):Ë (fun(v75:Val Ã) kk78=>iq L (Û L) v75.1 v75.2 (fun u76 u77=>kk78 (u76,u77)) k0) ((0:Int),(0:Int))=k0 (JD L):=by
 refine ĝ (fun x:Int×Int=>∃i:Nat,i≤L.length∧x=(JD (L.take i),(i:Int))) (fun x=>L.length-x.2.toNat) ?_ ⟨0,by omega,rfl⟩;rintro x ⟨i,hi,rfl⟩;have hlen:=hL.len;rcases dg i L.length with h|h
 ·have hl:L[i]?=some L[i]:=cF h;refine .inr ⟨(JD (L.take (i+1)),(i:Int)+1),⟨i+1,h,by simp⟩,by simp; omega,fun kn=>?_⟩
  try dsimp only
  unfold iq
  have hb:∀j,j≤L.length→-(400*4503599627370496)≤JD (L.take j):=by
   intro j hj;have h1:=Yf (L:=L.take j) (fun l hl=>(hL.most l (fX hl)).1) hL.m0;have h2:((L.take j).length:Int)*M≤400*4503599627370496:=f0 (by rw[cZ]; omega) hL.m1 hL.m0 (by omega);omega
  have h1:=hb i hi;have h2:=hb (i+1) h;have h3:=ajc (L.take i);rw[Vb hl] at h2;rw[Ð h,È hl,imin0,Ô (by omega) (by omega),Ì h (by omega),Vb hl]
 ·refine .inl fun kn=>?_
  have:i=L.length:=by omega
  subst this
  try dsimp only
  unfold iq;rw[Þ,List.take_length]
def adz {x:List Int} (hx:x.length=N) (hN:N≤1000) {r:Option ρ} (k0:(Val (.pair (.slice .bool) (.slice tI)))→Option ρ)
 (hK:∀(w:List Bool) (q:List Int),w.length=N→q.Nodup→(∀v∈q,0≤v∧v<N)→(∀v:Int,0≤v→v<N→(wv w v=true↔v∈q))→(∀v:Int,0≤v→v<N→(v∈q↔gv x v≠Ŝ))→k0 (w,q)=r) :
 Ë (fun(v70:(Val (.pair tI (.pair (.slice .bool) (.slice tI))))) kk74=>Ś (N:Int) x v70.1 v70.2.1 v70.2.2 (fun u71 u72 u73=>kk74 (u71,u72,u73)) k0) ((0:Int),(List.replicate N false),([]:List Int))=r:=by
 refine ĝ (fun s:Int×List Bool×List Int=>∃i:Nat,i≤N∧s.1=i∧s.2.1.length=N∧s.2.2.Nodup∧s.2.2.length≤i∧(∀v∈s.2.2,0≤v∧v<i)∧(∀v:Int,0≤v→v<N→(wv s.2.1 v=true↔v∈s.2.2))∧(∀v:Int,0≤v→v<i→(v∈s.2.2↔gv x v≠Ŝ))) (fun s=>N-s.1.toNat) ?_
  ⟨0,by omega,rfl,by simp,by simp,by simp,by simp,fun v h0 h1=>?_,fun v h0 h1=>by omega⟩
 ·rintro⟨s,w,q⟩ ⟨i,hi,h1,h2,h3,h4,h5,h6,h7⟩;simp only at h1 h2 h3 h4 h5 h6 h7;subst h1;rcases dg i N with h|h
  ·refine .inr ?_
   have hix:i<x.length:=by omega
   have hiw:i<w.length:=by omega
   have hnq:((i:Int))∉q:=fun hc=>by have:=(h5 _ hc).2; omega
   by_cases hf:gv x i=Ŝ
   ·refine⟨((i:Int)+1,w,q),⟨i+1,h,by simp,h2,h3,by simp only; omega,fun v hv=>⟨(h5 v hv).1,by have:=(h5 v hv).2; push_cast; omega⟩,h6,fun v h0 h1=>?_⟩,by simp; omega,fun kn=>?_⟩
    ·by_cases hv:v=i
     ·subst hv; simp[hf,hnq]
     ·exact h7 v h0 (by push_cast at h1; omega)
    ·try dsimp only
     unfold Ś
     have e:ilt (i:Int) (N:Int)=true:=by simp[ilt,h]
     rw[Ø e,Į hix,jh (by simpa using hix)]
     have e2:ine (gv x i) 1152921504606846976=false:=by simp[ine,hf]
     rw[Í e2,Ì h (by omega)]
   ·refine⟨((i:Int)+1,w.set i true,q++[(i:Int)]),⟨i+1,h,by simp,by simpa using h2,?_,by simp; omega,fun v hv=>?_,fun v h0 h1=>?_,fun v h0 h1=>?_⟩,by simp; omega,fun kn=>?_⟩
    ·rw[List.nodup_append];exact⟨h3,by simp,fun a ha b hb=>by simp at hb; subst hb; exact fun e=>hnq (e▸ha)⟩
    ·rcases cM.1 hv with hv|hv
     ·exact⟨(h5 v hv).1,by have:=(h5 v hv).2; push_cast; omega⟩
     ·simp at hv; subst hv; push_cast; omega
    ·have:=ZW (w:=w) (u:=(i:Int)) (by omega) h0 (by simpa using hiw) true;rw[cT] at this;show wv (w.set i true) v=true↔v∈q++[(i:Int)];rw[this]
     by_cases hv:v=i
     ·simp[hv]
     ·simp only[hv,if_false,cM,cP,or_false];exact h6 v h0 h1
    ·show v∈q++[(i:Int)]↔_
     by_cases hv:v=i
     ·subst hv; simp[hf]
     ·simp only[cM,cP,hv,or_false];exact h7 v h0 (by push_cast at h1; omega)
    ·try dsimp only
     unfold Ś
     have e:ilt (i:Int) (N:Int)=true:=by simp[ilt,h]
     rw[Ø e,Į hix,jh (by simpa using hix)]
     have e2:ine (gv x i) 1152921504606846976=true:=by simp[ine,hf]
     rw[Ø e2,Õ (by simp only[dG]; omega),Am.iff_true,Į hiw,Rh (by simpa using hiw),Ì h (by omega),cT]
  ·refine .inl fun kn=>?_
   have:i=N:=by omega
   subst this
   try dsimp only
   unfold Ś
   have e:ilt (i:Int) (i:Int)=false:=by simp[ilt]
   rw[Í e];exact hK w q h2 h3 h5 h6 h7
 ·have:wv (List.replicate N false) v=false:=by
   unfold wv;rw[List.getElem?_replicate]
   split<;>rfl
  simp[this]
def Py (hL:iM L N M) (hN:1≤N) {S:Int→Bool} (hS:∀v,S v=true→0≤v∧v<N) {w:List Bool} {q:List Int} (hw:w.length=N) (hq:q.Nodup) (hr:∀v∈q,0≤v∧v<N) (hwq:∀v:Int,0≤v→v<N→(wv w v=true↔v∈q)) (hqs:∀v:Int,0≤v→v<N→(v∈q↔gv (vh S N) v≠Ŝ)) :
 ac2 L (fun v=>S v=true) N M 0 q [] (vh S N) w (List.replicate N 0) q:=by
 have ht:∀v:Int,0≤v→v<N→gv (List.replicate N (0:Int)) v=0:=by
  intro v h0 h1;unfold gv;rw[List.getElem?_replicate]
  split<;>rfl
 have hg:∀v:Int,0≤v→v<N→(v∈q↔S v=true):=by
  intro v h0 h1;rw[hqs v h0 h1,i6 S h0 h1]
  cases S v<;>simp[Ŝ]
 have hM:=hL.m0;refine⟨by simp,đ S N,hw,by simp,hq,hr,hwq,fun v h0 h1=>?_,fun v hv=>?_,fun vs v d hw hl=>?_,fun vs u d hw hl hu v m hlk=>?_,fun u h0 h1 hu hf v m hlk=>?_,fun v h0 h1 hf=>?_,fun v h0 h1=>?_,fun v hv=>?_,fun v hv=>?_,by omega,fun _=>rfl⟩
 ·rw[ht v h0 h1]; omega
 ·have:=hr v hv;rw[ht v this.1 this.2]; omega
 ·cases hw with
  |nil hs =>
   have:=hS v hs;rw[i6 S this.1 this.2,if_pos hs]; omega
  |step=>simp at hl
 ·cases hw with
  |nil hs =>
   have:=hS u hs;exact(hu ((hg u this.1 this.2).2 hs)).elim
  |step=>simp at hl
 ·rw[i6 S h0 h1] at hf;have:=mt (hg u h0 h1).2 hu;rw[if_neg this] at hf;exact(hf rfl).elim
 ·rw[i6 S h0 h1] at hf ⊢
  split at hf
  ·rename_i hs;rw[if_pos hs]; exact⟨[],.nil hs⟩
  ·exact(hf rfl).elim
 ·rw[i6 S h0 h1]
  split
  ·exact .inr (by simp[hM])
  ·exact .inl rfl
 ·have h1:=hr v hv;rw[i6 S h1.1 h1.2,if_pos ((hg v h1.1 h1.2).1 hv)]; simp
 ·have h1:=hr v hv;rw[i6 S h1.1 h1.2,if_pos ((hg v h1.1 h1.2).1 hv)]; simp[Ŝ]
structure Bad (L:List Lk) (N:Nat) (x:List Int) (w:List Bool) (t q:List Int):Prop where
 lx:x.length=N
 lw:w.length=N
 lt:t.length=N
 nodup:q.Nodup
 rng:∀v∈q,0≤v∧v<N
 waits:∀v:Int,0≤v→v<N→(wv w v=true↔v∈q)
 t0:∀v:Int,0≤v→v<N→0≤gv t v∧gv t v≤(N:Int)+1
 bd:∀v:Int,0≤v→v<N→-2305843009213693952≤gv x v∧gv x v≤0
 rel:∀u:Int,0≤u→u<N→u∉q→∀v m,(u,v,m)∈L→gv x v≤gv x u+m
def agG {r:Option ρ} {x:List Int} {w:List Bool} {t q:List Int} (hL:iM L N M) (hp:¬∃p,Pot L p) (k0:(Val (.pair .bool (.pair (.slice tI) (.pair (.slice .bool) (.pair (.slice tI) (.slice tI))))))→Option ρ)
 (hK:∀x w t q,k0 (false,x,w,t,q)=r) (h:Bad L N x w t q) :
 Ë (fun(v64:(Val (.pair (.slice tI) (.pair (.slice .bool) (.pair (.slice tI) (.slice tI)))))) kk69=>Ĭ [] (JD L) (N:Int) L v64.1 v64.2.1 v64.2.2.1 v64.2.2.2 (fun u65 u66 u67 u68=>kk69 (u65,u66,u67,u68)) k0) (x,w,t,q)=r:=by
 refine ĝ (fun s:List Int×List Bool×List Int×List Int=>Bad L N s.1 s.2.1 s.2.2.1 s.2.2.2) (fun s=>Th N s.2.2.1) ?_ h;rintro⟨x,w,t,q⟩ h;dsimp only at h ⊢;have hN:=hL.nodes
 cases q with
 |nil =>
  exfalso;exact hp ⟨gv x,fun u v m hl=>h.rel u (hL.inr _ hl).1.1 (hL.inr _ hl).1.2 (by simp) v m hl⟩
 |cons n rest =>
  have hnr:=h.rng n (by simp);have hb:=h.bd n hnr.1 hnr.2;have ht:=h.t0 n hnr.1 hnr.2
  have hrl:rest.length≤1000000:=by
   have:=aao N (n::rest) h.nodup h.rng;simp only[cW] at this;omega
  have hout:=fun(kn:List Int→List Bool→List Int→List Int→Option ρ)=>aay (ρ:=ρ) hL (least:=JD L) hnr h.lx h.lw h.lt hrl ⟨hb.1,by omega⟩ ⟨ht.1,by omega⟩ kn k0
  by_cases hlt:(N:Int)+1<gv t n+1
  ·exact .inl fun kn=>by rw[hout,if_pos hlt]; exact hK _ _ _ _
  ·have hw':(w.set n.toNat false).length=N:=by rw[fk]; exact h.lw
   cases hr:qw n (JD L) L x (w.set n.toNat false) rest with
   |mk b r' =>
   obtain⟨x',w',q'⟩:=r'
   cases b with
   |false=>exact .inl fun kn=>by rw[hout,if_neg hlt,hr]; exact hK _ _ _ _
   |true =>
    have hnd:=h.nodup;rw[eM] at hnd
    have htl:n.toNat<t.length:=by have:=h.lt; omega
    have ha:=kR hnr hL.inr hL.noloop h.lx hw' hnd.2 (fun v h0 h1=>by
     rw[ZW hnr.1 h0 (by have:=h.lw; omega)]
     by_cases hv:v=n
     ·subst hv; simp[hnd.1]
     ·rw[if_neg hv,h.waits v h0 h1]
      simp[hv]) hr
    obtain⟨l,hl,hlv⟩:=ha.new;refine .inr ⟨(x',w',t.set n.toNat (gv t n+1),q'),⟨ha.lx,ha.lw,by rw[fk]; exact h.lt,ha.nodup,fun v hv=>?_,ha.waits,fun v h0 h1=>?_,fun v h0 h1=>?_,fun u h0 h1 hu v m hlk=>?_⟩,WL htl (by omega),fun kn=>by rw[hout,if_neg hlt,hr]⟩
    ·dsimp only at hv;rw[hl] at hv;rcases List.mem_append.1 hv with hv|hv
     ·exact h.rng v (by simp[hv])
     ·exact(hlv v hv).1
    ·try dsimp only
     rw[sr hnr.1 h0 htl];have:=h.t0 v h0 h1
     split<;>omega
    ·try dsimp only
     have h2:=h.bd v h0 h1;rcases ha.chg v h0 h1 with g|⟨_,g2,m,g3,g4,g5⟩
     ·rw[g]; exact h2
     ·have h3:=Yf (L:=L) (fun l hl=>(hL.most l hl).1) hL.m0;have h4:(L.length:Int)*M≤400*4503599627370496:=f0 (by have:=hL.len; omega) hL.m1 hL.m0 (by omega);omega
    ·dsimp only at hu ⊢;have hvr:=(hL.inr _ hlk).2
     have heq:gv x' u=gv x u:=by
      rcases ha.chg u h0 h1 with g|⟨g,_⟩
      ·exact g
      ·exact(hu g).elim
     by_cases hun:u=n
     ·subst hun;have h1:=ha.link v m hlk;omega
     ·have hur:u∉n::rest:=by
       intro hc;rcases cN.1 hc with e|hc
       ·exact hun e
       ·exact hu (by rw[hl]; exact dD _ hc)
      have h2:=h.rel u h0 h1 hur v m hlk;have:=ha.le v hvr.1 hvr.2;omega
end
def ac1 (N:Nat) (v:Int):Bool:=decide (0≤v)&&decide (v<(N:Int))
def agq (s:Int) (v:Int):Bool:=v==s
def Uo (N:Nat):vh (ac1 N) N=List.replicate N 0:=by
 refine aaS (by simp[đ]) fun v h0 h1=>?_;rw[đ] at h1;rw[i6 _ h0 h1]
 have:ac1 N v=true:=by simp[ac1,h0,h1]
 rw[if_pos this];unfold gv;rw[List.getElem?_replicate]
 split<;>rfl
def i7 (L:List Lk) (N:Nat):List Int:=lg L N (vh (ac1 N) N)
def kZ (L:List Lk) (N:Nat):Bool:=decide (Iz L (i7 L N)=i7 L N)
def zk (L:List Lk) (N:Nat) (s:Int):List Int:=lg L N (vh (agq s) N)
section
variable {L:List Lk} {N:Nat} {M:Int}
def ag3 (hL:iM L N M) (hN:N≤200):N*M<Ŝ:=by
 have:(N:Int)*M≤200*4503599627370496:=Int.mul_le_mul (by omega) hL.m1 hL.m0 (by omega);unfold Ŝ;omega
def FS {p:Int→Int} (hL:iM L N M) (hN:N≤200) (hp:Pot L p):ac4 L (fun v=>ac1 N v=true) N (gv (i7 L N)) :=
 Kj hp hL.inr (fun v h=>by simpa[ac1] using h) (fun l hl=>(hL.most l hl).2) hL.m0 (ag3 hL hN) N (by omega)
def CQ {p:Int→Int} (hL:iM L N M) (hN:N≤200) (hp:Pot L p) {s:Int} (hs:0≤s∧s<N):ac4 L (fun v=>agq s v=true) N (gv (zk L N s)) :=
 Kj hp hL.inr (fun v h=>by simp[agq] at h; subst h; exact hs) (fun l hl=>(hL.most l hl).2) hL.m0 (ag3 hL hN) N (by omega)
def UM:∀{L:List Lk} {x:List Int},(∀u v m,(u,v,m)∈L→gv x u<Ŝ→gv x v≤gv x u+m)→Iz L x=x
 |[],x,_=>rfl
 |l::t,x,h=>by
  have h1:mf x l=x:=by
   unfold mf
   split
   ·rename_i hc;have:=h l.1 l.2.1 l.2.2 (by simp) hc.1;omega
   ·rfl
  show Iz t (mf x l)=x;rw[h1];exact UM fun u v m hm=>h u v m (by simp[hm])
def jX (hL:iM L N M) (hN:N≤200):kZ L N=true↔∃p,Pot L p:=by
 unfold kZ;rw[decide_eq_true_eq]
 have hle:∀v:Int,0≤v→v<N→gv (i7 L N) v≤0:=by
  intro v h0 h1;have:=C8 hL.inr N (đ (ac1 N) N) v h0;rw[i6 _ h0 h1,if_pos (by simp[ac1,h0,h1])] at this;exact this
 constructor
 ·intro h;refine⟨gv (i7 L N),fun u v m hl=>?_⟩;have hr:=(hL.inr _ hl).1;have:=F0 hL.inr (x:=i7 L N) (by unfold i7; rw[ť,đ]) u v m hl (by have:=hle u hr.1 hr.2; unfold Ŝ; omega)
  rwa [h] at this
 ·rintro⟨p,hp⟩;have hd:=FS hL hN hp;exact UM fun u v m hl hf=>hd.pot hL.inr hl (by omega)
end
section
variable {ρ:Type} {L:List Lk} {N:Nat} {M:Int}
def EV (hN:N≤1000) (x:Option ρ):ä ((ile (0:Int) (N:Int))&&(ê (Int.toNat (N:Int)))) x=x:=by
 rw[cT,Õ (by omega)]
 have:((ile (0:Int) (N:Int))&&true)=true:=by simp[ile]
 rw[this,Am.iff_true]
def X0 (hL:iM L N M) (h1:1≤N) (hN:N≤200) (k0:(Val (.pair .bool (.pair (.slice tI) (.pair (.slice .bool) (.pair (.slice tI) (.slice tI))))))→Option ρ) {rT rF:Option ρ}
 (hT:kZ L N=true→∀w t q,k0 (true,i7 L N,w,t,q)=rT) (hF:∀x w t q,k0 (false,x,w,t,q)=rF) :
 (Ë (fun(v70:(Val (.pair tI (.pair (.slice .bool) (.slice tI))))) kk74=>Ś (N:Int) (List.replicate N (0:Int)) v70.1 v70.2.1 v70.2.2 (fun u71 u72 u73=>kk74 (u71,u72,u73)) (fun z9=>Ë (fun(v64:(Val (.pair (.slice tI) (.pair (.slice .bool) (.pair (.slice tI) (.slice tI)))))) kk69=>Ĭ [] (JD L) (N:Int) L v64.1 v64.2.1 v64.2.2.1 v64.2.2.2 (fun u65 u66 u67 u68=>kk69 (u65,u66,u67,u68)) k0) ((List.replicate N (0:Int)),z9.1,(List.replicate N (0:Int)),z9.2))) ((0:Int),(List.replicate N false),([]:List Int)))=if kZ L N then rT else rF:=by
 refine adz (by simp) (by omega) _ fun w q hw hq hr hwq hqs=>?_
 try dsimp only
 have hS:∀v,ac1 N v=true→0≤v∧v<N:=fun v h=>by simpa[ac1] using h
 by_cases ho:kZ L N=true
 ·rw[if_pos ho];obtain⟨p,hp⟩:=(jX hL hN).1 ho;have hs:=Py hL h1 hS hw hq hr hwq (fun v a b=>by rw[Uo]; exact hqs v a b);rw[Uo] at hs;refine Up hL (ag3 hL hN) hp hS k0 (fun x w t q hx hd=>?_) hs
  have:x=i7 L N:=by
   refine aaS (by rw[hx]; unfold i7; rw[ť,đ]) fun v a b=>?_;exact hd.uniq (FS hL hN hp) a (by omega)
  rw[this]; exact hT ho w t q
 ·rw[if_neg ho];refine agG hL (fun hp=>ho ((jX hL hN).2 hp)) k0 hF ?_
  have hg:∀v,gv (List.replicate N (0:Int)) v=0:=by
   intro v;unfold gv;rw[List.getElem?_replicate]
   split<;>rfl
  refine⟨by simp,hw,by simp,hq,hr,hwq,fun v a b=>?_,fun v a b=>?_,fun u a b hu v m hl=>?_⟩
  ·rw[hg]; omega
  ·rw[hg]; omega
  ·exact(hu ((hqs u a b).2 (by rw[hg]; unfold Ŝ; omega))).elim
end
def shift_ok {ρ:Type} {x:List Int} (f:Int) (hx:x.length≤1000) (hf : -2305843009213693952≤f∧f≤2305843009213693952) (hb:∀a∈x,-2305843009213693952≤a∧a≤2305843009213693952) (k0:List Int→Option ρ) :
 Ë (fun(v60:(Val (.pair tI (.slice tI)))) kk63=>jo f (Û x) v60.1 v60.2 (fun u61 u62=>kk63 (u61,u62)) k0) ((0:Int),x)=k0 (x.map fun a=>a-f):=by
 refine ĩ x (fun i=>(x.take i).map (fun a=>a-f)++x.drop i) _ (by simp) (fun i a hi ha kn=>?_) (fun kn=>?_)
 ·try dsimp only
  unfold jo
  have hlen:((x.take i).map (fun a=>a-f)++x.drop i).length=x.length:=by simp; omega
  have hget:((x.take i).map (fun a=>a-f)++x.drop i)[i]?=some a:=by
   rw[fU (by simp; omega)];simp only[dA,cZ,dV];rw[←ha]; congr 1; omega
  have hi':i<((x.take i).map (fun a=>a-f)++x.drop i).length:=by omega
  have ha':=hb a (cO ha);rw[Ð hi,Į hi',ô hget,Ô (by omega) (by omega),Į hi',ô hget,Ì hi (by omega),cT,take_succ ha];congr 2;rw[dE hi,fj,cQ,gw _ _ (by simp; omega)]
  have:i-(List.map (fun a=>a-f) (List.take i x)).length=0:=by simp; omega
  rw[this]
  have h1:x[i]=a:=by rw[cF hi] at ha; simpa using ha
  simp[h1]
 ·try dsimp only
  unfold jo;rw[Þ];simp
section
variable {L:List Lk} {N:Nat} {M:Int}
def agH (hL:iM L N M) (hN:N≤200) (ho:kZ L N=true):∀a∈i7 L N,-2305843009213693952≤a∧a≤0:=by
 obtain⟨p,hp⟩:=(jX hL hN).1 ho;have hd:=FS hL hN hp;intro a ha;obtain⟨i,hi,rfl⟩:=cS.1 ha
 have hlen:(i7 L N).length=N:=by unfold i7; rw[ť,đ]
 have h0:gv (i7 L N) i=(i7 L N)[i]:=by unfold gv; simp[hi]
 have hle:=C8 hL.inr N (đ (ac1 N) N) (i:Int) (by omega);rw[i6 _ (by omega) (by omega),if_pos (by simp[ac1]; omega)] at hle;have hle':gv (i7 L N) i≤0:=hle;obtain⟨vs,hw⟩:=hd.att i (by omega) (by omega) (by unfold Ŝ; omega);have h1:=hw.low' hp;have h3:=Yf (L:=L) (fun l hl=>(hL.most l hl).1) hL.m0;have h4:(L.length:Int)*M≤400*4503599627370496:=Int.mul_le_mul (by have:=hL.len; omega) hL.m1 hL.m0 (by omega);omega
def solP (L:List Lk) (N:Nat):List Int:=(i7 L N).map fun a=>a-gv (i7 L N) 0
def vk (hL:iM L N M) (h1:1≤N) (hN:N≤200):kT ((N:Int),L) []=some (if kZ L N then(solP L N,true) else([],false)):=by
 unfold kT yv
 try dsimp only
 rw[EV (by omega),EV (by omega),EV (by omega),cT];refine eA (aaO hL _) ?_;refine eA (X0 hL h1 hN _ (rT:=some (solP L N,true)) (rF:=some ([],false)) (fun ho w t q=>?_) (fun x w t q=>?_)) ?_
 ·try dsimp only
  have hlen:(i7 L N).length=N:=by unfold i7; rw[ť,đ]
  have hb:=agH hL hN ho;have h0:ilt (0:Int) (î (i7 L N))=true:=decide_eq_true (show(0:Int)<((i7 L N).length:Int) by omega);have hg:(i7 L N)[0]?=some (gv (i7 L N) 0):=WT (v:=0) (show 0<_ by omega);have hm:=hb _ (cO hg);rw[show(!true)=false from rfl,é,ċ h0,i9 hg];exact shift_ok _ (by omega) ⟨hm.1,by omega⟩ (fun a ha=>⟨(hb a ha).1,by have:=(hb a ha).2; omega⟩) _
 ·rfl
 ·cases kZ L N<;>rfl
structure jA (L:List Lk) (N:Nat):Prop where
 n1:1≤N
 n60:N≤60
 len:L.length≤300
 inr:InR L N
 noloop:∀l∈L,l.1≠l.2.1
 most:∀l∈L,-4503599627370496≤l.2.2∧l.2.2≤4503599627370496
def jA.links (h:jA L N):iM L N 4503599627370496 :=
 ⟨h.inr,h.noloop,h.most,by have:=h.len; omega,by have:=h.n60; omega,by omega,by omega⟩
def Ye (n:Int) (L:List Lk) (v:Int):zQ (n,L) v=some (decide (0≤v)&&decide (v<n)):=by
 unfold zQ RU ige
 by_cases h:0≤v
 ·have:decide (v≥0)=true:=by simpa using h
  rw[Ø this]; simp[h]
 ·have:decide (v≥0)=false:=by simpa using h
  rw[Í this]; simp[h]
def jL (h:jA L N):ow ((N:Int),L)=some (0,-1):=by
 have h1:=h.n1;have h2:=h.n60;have h3:=h.len;unfold ow LN
 try dsimp only
 rw[Í (by simp[ilt]; omega),Í (by simp[igt]; omega),Í (by rw[Ò]; simp[igt]; omega)];refine eA (jr L (fun _=>false) (fun i=>some (1,i)) (some (0,-1)) (fun i l hi hl kn=>?_) (fun kn=>?_)) ?_
 ·try dsimp only
  unfold sa;have hm:=List.mem_of_getElem? hl;have a:=h.inr l hm;have b:=h.noloop l hm;have c:=h.most l hm
  have e1:(decide (0≤l.1)&&decide (l.1<(N:Int)))=true:=by simp[a.1.1,a.1.2]
  have e2:(decide (0≤l.2.1)&&decide (l.2.1<(N:Int)))=true:=by simp[a.2.1,a.2.2]
  rw[Ð hi,È hl,Ye,À,e1,Ye,À,e2];simp only[dB,é,cV,if_false];rw[Í (by simp[ieq,b]),Í (by simp[ilt]; omega),Í (by simp[igt]; omega),Ì hi (by omega)]
 ·try dsimp only
  unfold sa;rw[Þ]
 ·rw[dF.2 (by simp)]
def oL {ρ:Type} {x:List Int} {v:Int} (h0:0≤v) (h:v.toNat<x.length) (f:Int→Option ρ):ě x v f=f (gv x v):=by
 obtain⟨i,rfl⟩:=fJ h0;exact È (WT h) f
def Pg (L:List Lk) (x:List Int):Bool:=L.all fun l=>decide (gv x l.2.1≤gv x l.1+l.2.2)
def XC (h:jA L N) {x:List Int} (hx:x.length=N) (hb:∀a∈x,-Ŝ≤a∧a≤Ŝ):JR ((N:Int),L) x=some (Pg L x&&gv x 0==0,0):=by
 have h1:=h.n1;have h2:=h.n60;have h3:=h.len;unfold JR Sb;rw[jL h,À]
 try dsimp only
 rw[Í (by rfl),Í (by rw[Ò,hx]; simp[ine])]
 have second:Ë (fun(v20:Int) kk22=>mO x L (Û L) v20 (fun u21=>kk22 u21) (fun z17=>some (z17.1,z17.2)) (fun _=>ě x (0:Int) fun e19=>some (ieq e19 (0:Int),(0:Int)))) (0:Int)=some (Pg L x&&gv x 0==0,0):=by
  refine eA (Ĺ L (fun l=>!decide (gv x l.2.1≤gv x l.1+l.2.2)) (fun _=>some (false,0)) (some (false,0)) (some (gv x 0==0,0)) (fun _=>rfl) (fun i l hi hl kn=>?_) (fun kn=>?_)) ?_
  ·try dsimp only
   unfold mO;have hm:=List.mem_of_getElem? hl;have a:=h.inr l hm;have c:=h.most l hm
   have g1:l.1.toNat<x.length:=by omega
   have hg:=hb _ (List.mem_of_getElem? (WT g1));unfold Ŝ at hg;rw[Ð hi,È hl,oL a.2.1 (by omega),oL a.1.1 g1,Ô (by omega) (by omega),Ì hi (by omega),Ď]
   by_cases hle:gv x l.2.1≤gv x l.1+l.2.2
   ·rw[if_neg (by simp[igt]; omega),if_neg (by simp[hle])]
   ·rw[if_pos (by simp[igt]; omega),if_pos (by simp[hle])]
  ·try dsimp only
   unfold mO;rw[Þ,oL (by omega) (by rw[Int.toNat_zero]; omega)]
  ·unfold Pg;rw[show(L.any fun l=>!decide (gv x l.2.1≤gv x l.1+l.2.2))=!(L.all fun l=>decide (gv x l.2.1≤gv x l.1+l.2.2)) from by rw[List.all_eq_not_any_not]; simp]
   cases(L.all fun l=>decide (gv x l.2.1≤gv x l.1+l.2.2))<;>rfl
 refine eA (Ĺ x (fun _=>false) (fun z4=>ifb (ige z4 (0:Int)) (some (false,(1:Int))) (some (Pg L x&&gv x 0==0,0))) (some (false,1)) (some (Pg L x&&gv x 0==0,0)) (fun j=>?_) (fun i a hi ha kn=>?_) (fun kn=>?_)) ?_
 ·rw[Ø (by simp[ige])]
 ·try dsimp only
  unfold vN;have hg:=hb a (List.mem_of_getElem? ha);unfold Ŝ at hg;rw[Ð hi,È ha,Í (by simp[ilt]; omega),Í (by simp[igt]; omega),Ì hi (by omega)];simp
 ·try dsimp only
  unfold vN;rw[Þ];exact second
 ·simp
end
section
variable {b:ë}
def tj (b:ë) (g:ò):(ß b g).Pairwise (·<·):=J5 _
def Nd (h:Ł b) {g:ò} (hg:g∈b.2.1):∃t,ß b g=g.2.1::t:=by
 have h1:=tj b g;have h2:=pu (b:=b) g;have h3:∀d∈ß b g,g.2.1≤d:=fun d hd=>(h.day hg hd).1
 cases hd:ß b g with
 |nil=>rw[hd] at h2; cases h2
 |cons a t =>
  rw[hd] at h1 h2 h3;rw[dt] at h1;rcases cN.1 h2 with e|e
  ·exact⟨t,by rw[e]⟩
  ·have:=h1.1 _ e;have:=h3 a (by simp);omega
def off (b:ë) (i:Nat):Nat:=((b.2.1.take i).flatMap fun g=>(ß b g).map fun d=>((g.1,d):Int×Int)).length
def BO {i:Nat} {g:ò} (hg:b.2.1[i]?=some g):Ê b=((b.2.1.take i).flatMap fun g=>(ß b g).map fun d=>((g.1,d):Int×Int))++(((ß b g).map fun d=>((g.1,d):Int×Int))++((b.2.1.drop (i+1)).flatMap fun g=>(ß b g).map fun d=>((g.1,d):Int×Int))):=by
 obtain⟨hi,rfl⟩:=cI.1 hg
 have h1:b.2.1=b.2.1.take i++(b.2.1[i]::b.2.1.drop (i+1)):=by
  rw[←dE hi,dR]
 unfold Ê
 conv=>lhs; rw[h1]
 rw[fN,dz]
def Rg (h:Ł b) {i:Nat} {g:ò} (hg:b.2.1[i]?=some g) {k:Nat} {d:Int} (hk:(ß b g)[k]?=some d):jg (Ê b) g.1 d=some (off b i+k):=by
 obtain⟨hi,hgi⟩:=List.getElem?_eq_some_iff.1 hg;obtain⟨hkl,hkd⟩:=List.getElem?_eq_some_iff.1 hk;unfold jg;rw[BO hg,List.findIdx?_append,List.findIdx?_append]
 have h1:List.findIdx? (fun n:Int×Int=>decide (g.1=n.1)&&decide (d=n.2)) ((b.2.1.take i).flatMap fun g=>(ß b g).map fun d=>((g.1,d):Int×Int))=none:=by
  rw[dF];intro x hx;obtain⟨g',hg',hx⟩:=dk.1 hx;obtain⟨d',_,rfl⟩:=df.1 hx;obtain⟨j,hj,rfl⟩:=cS.1 hg';rw[cZ] at hj;rw[eX];have:=(dm.1 h.ids) j i (by omega) hi (by omega);rw[hgi] at this;simp only[gW,decide_eq_false_iff_not];exact .inl (by omega)
 have h2:List.findIdx? (fun n:Int×Int=>decide (g.1=n.1)&&decide (d=n.2)) ((ß b g).map fun d=>((g.1,d):Int×Int))=some k:=by
  rw[dI];refine⟨by simpa using hkl,by simp[hkd],fun j hj=>?_⟩;have:=(dm.1 (tj b g)) j k (by omega) hkl hj;rw[hkd] at this;simp only[List.getElem_map,cH,decide_eq_true_eq,not_and];intro _;omega
 rw[h1,h2];simp only[Option.map_some,Option.some_or,Option.none_or];unfold off;congr 1;omega
def JC {i:Nat} {g:ò} (hg:b.2.1[i]?=some g) {k:Nat} {d:Int} (hk:(ß b g)[k]?=some d):(Ê b)[off b i+k]?=some (g.1,d):=by
 obtain⟨hkl,hkd⟩:=List.getElem?_eq_some_iff.1 hk;rw[BO hg,List.getElem?_append_right (by unfold off; omega),List.getElem?_append_left (by unfold off; simp; omega)];unfold off;simp[hk]
def ahT (h:Ł b) {i:Nat} {g:ò} (hg:b.2.1[i]?=some g):atP (Ê b) [g.1] g.2.1=(off b i:Int)+1:=by
 obtain⟨t,ht⟩:=Nd h (List.mem_of_getElem? hg);have:=Rg h hg (k:=0) (d:=g.2.1) (by rw[ht]; rfl);unfold atP;simp only[this];rfl
def aja (h:Ł b) {i:Nat} {g:ò} (hg:b.2.1[i]?=some g):off b i+(ß b g).length≤(Ê b).length:=by
 rw[BO hg];unfold off;simp only[List.length_append,List.length_map];omega
def ag0 {i:Nat} {g:ò} (hg:b.2.1[i]?=some g):off b (i+1)=off b i+(ß b g).length:=by
 unfold off;rw[take_succ hg,List.flatMap_append];simp
def U9 (h:Ł b) {c:Cmp} (hc:c∈b.2.2.2.2.1) {x:Int} (hx:(x∈c.2.2.1∧x∉c.2.2.2.1)∨(x∈c.2.2.2.1∧x∉c.2.2.1)):∃j,jg (Ê b) x c.2.1=some j:=by
 have hm:x∈c.2.2.1++c.2.2.2.1:=by rw[cM]; exact hx.imp (·.1) (·.1)
 obtain⟨⟨g,hg,_⟩,_⟩:=h.pile hc hm;obtain⟨hgm,hgx⟩:=Τ hg;obtain⟨i,hi,hgi⟩:=cS.1 hgm
 have hd:c.2.1∈ß b g:=Β.2 (.inr (.inl ⟨c,hc,by
  rw[hgx];rcases hx with⟨h1,h2⟩|⟨h1,h2⟩
  ·have e1:c.2.2.1.contains x=true:=by simpa using h1
   have e2:c.2.2.2.1.contains x=false:=by simpa using h2
   rw[e1,e2]; simp
  ·have e1:c.2.2.2.1.contains x=true:=by simpa using h1
   have e2:c.2.2.1.contains x=false:=by simpa using h2
   rw[e1,e2]; simp,rfl⟩))
 obtain⟨k,hk,hkd⟩:=cS.1 hd;have:=Rg h (g:=g) (i:=i) (by rw[cF hi,hgi]) (k:=k) (d:=c.2.1) (by rw[cF hk,hkd]);rw[hgx] at this;exact⟨_,this⟩
inductive acW (b:ë) (p:List Int) (d:Int) (n:Int):Prop
 |none:p=[]→n=0→acW b p d n
 |one (x:Int) (j:Nat):p=[x]→jg (Ê b) x d=some j→n=(j:Int)+1→acW b p d n
def Zt (h:Ł b) {c:Cmp} (hc:c∈b.2.2.2.2.1):acW b (û c.2.2.1 c.2.2.2.1) c.2.1 (cx b c):=by
 have hl:=(h.lefts hc).1
 cases hp:û c.2.2.1 c.2.2.2.1 with
 |nil=>exact .none rfl (by unfold cx atP; rw[hp])
 |cons x t =>
  rw[hp] at hl
  have:t=[]:=by cases t with|nil=>rfl|cons=>simp at hl
  subst this;obtain⟨j,hj⟩:=U9 h hc (x:=x) (.inl (oq.1 (by rw[hp]; simp)));exact .one x j rfl hj (by unfold cx atP; rw[hp]; simp only[hj])
def TI (h:Ł b) {c:Cmp} (hc:c∈b.2.2.2.2.1):acW b (û c.2.2.2.1 c.2.2.1) c.2.1 (cy b c):=by
 have hl:=(h.lefts hc).2.1
 cases hp:û c.2.2.2.1 c.2.2.1 with
 |nil=>exact .none rfl (by unfold cy atP; rw[hp])
 |cons x t =>
  rw[hp] at hl
  have:t=[]:=by cases t with|nil=>rfl|cons=>simp at hl
  subst this;obtain⟨j,hj⟩:=U9 h hc (x:=x) (.inr (oq.1 (by rw[hp]; simp)));exact .one x j rfl hj (by unfold cy atP; rw[hp]; simp only[hj])
def acW.rng {p:List Int} {d n:Int} (h:acW b p d n):0≤n∧n<((Ê b).length+1:Nat):=by
 rcases h with⟨_,h⟩|⟨x,j,_,h1,h2⟩
 ·omega
 ·have:=(jD h1).1;omega
def ahB (h:Ł b) {c:Cmp} (hc:c∈b.2.2.2.2.1):cx b c≠cy b c:=by
 have hl:=(h.lefts hc).2.2;rcases Zt h hc with⟨h1,h2⟩|⟨x,j,h1,h2,h3⟩
 ·rcases TI h hc with⟨g1,g2⟩|⟨y,k,g1,g2,g3⟩
  ·rw[h1,g1] at hl; simp at hl
  ·omega
 ·rcases TI h hc with⟨g1,g2⟩|⟨y,k,g1,g2,g3⟩
  ·omega
  ·intro e
   have:j=k:=by omega
   subst this;have e1:=(jD h2).2;have e2:=(jD g2).2;rw[e1] at e2;simp only[Option.some.injEq,Prod.mk.injEq] at e2
   have m1:x∈û c.2.2.1 c.2.2.2.1:=by rw[h1]; simp
   have m2:y∈û c.2.2.2.1 c.2.2.1:=by rw[g1]; simp
   rw[e2.1] at m1;exact(oq.1 m1).2 (oq.1 m2).1
def aeC (h:Ł b):(Ζ b).length=2*(Ê b).length+2*b.2.2.2.2.1.length:=by
 have h1:∀l:List ò,(∀g∈l,g∈b.2.1)→(l.flatMap (ň b)).length=2*(l.flatMap fun g=>(ß b g).map fun d=>((g.1,d):Int×Int)).length:=by
  intro l
  induction l with
  |nil=>intro _; rfl
  |cons g t ih =>
   intro hm;have:=ih fun g hg=>hm g (by simp[hg]);have hp:=List.length_pos_of_mem (pu (b:=b) g);simp only[List.flatMap_cons,List.length_append,List.length_map,this];unfold ň;rw[List.length_append,pR _ _ (fun _=>rfl)];simp only[List.length_cons,List.length_nil];omega
 have h2:∀l:List Cmp,(l.flatMap (jx b)).length=2*l.length:=by
  intro l
  induction l with
  |nil=>rfl
  |cons c t ih =>
   simp only[dz,cJ,ih,jx,cW,dZ];omega
 unfold Ζ;rw[List.length_append,h1 _ fun _ h=>h,h2];rfl
def ă (h:Ł b) {i:Nat} {g:ò} (hg:b.2.1[i]?=some g) {l:Lk}:l∈ň b g ↔
 l=(0,(off b i:Int)+1,g.2.2.1+g.2.2.2.1.2)∨l=((off b i:Int)+1,0,-(g.2.2.1+g.2.2.2.1.1)) ∨
 ∃(k:Nat) (d e:Int),(ß b g)[k]?=some d∧(ß b g)[k+1]?=some e∧(l=((off b i:Int)+k+1,(off b i:Int)+k+2,0)∨l=((off b i:Int)+k+2,(off b i:Int)+k+1,kL b g d e)):=by
 unfold ň;rw[ahT h hg];simp only[List.mem_append,List.mem_cons,List.not_mem_nil,or_false,List.mem_flatMap,List.mem_range];constructor
 ·rintro((h1|h1)|⟨k,hk,h1⟩)
  ·exact .inl h1
  ·exact .inr (.inl h1)
  ·refine .inr (.inr ⟨k,(ß b g)[k],(ß b g)[k+1],cF (by omega),cF (by omega),?_⟩);rw[cF (show k<(ß b g).length by omega),cF (show k+1<(ß b g).length by omega)] at h1;simp only[f6] at h1
   have e1:(off b i:Int)+1+k=(off b i:Int)+k+1:=by omega
   have e2:(off b i:Int)+k+1+1=(off b i:Int)+k+2:=by omega
   rw[e1,e2] at h1;exact h1
 ·rintro(h1|h1|⟨k,d,e,hd,he,h1⟩)
  ·exact .inl (.inl h1)
  ·exact .inl (.inr h1)
  ·obtain⟨h2,rfl⟩:=cI.1 hd;obtain⟨h3,rfl⟩:=cI.1 he;refine .inr ⟨k,by omega,?_⟩;rw[hd,he];simp only[f6]
   have e1:(off b i:Int)+1+k=(off b i:Int)+k+1:=by omega
   have e2:(off b i:Int)+k+1+1=(off b i:Int)+k+2:=by omega
   rw[e1,e2];exact h1
def iT {l:Lk}:l∈Ζ b↔(∃(i:Nat) (g:ò),b.2.1[i]?=some g∧l∈ň b g)∨∃c∈b.2.2.2.2.1,l=(cy b c,cx b c,(qH b c).2)∨l=(cx b c,cy b c,-(qH b c).1):=by
 unfold Ζ;simp only[List.mem_append,List.mem_flatMap,jx,List.mem_cons,List.not_mem_nil,or_false];constructor
 ·rintro(⟨g,hg,h⟩|h)
  ·obtain⟨i,hi,rfl⟩:=cS.1 hg;exact .inl ⟨i,_,cF hi,h⟩
  ·exact .inr h
 ·rintro(⟨i,g,hg,h⟩|h)
  ·exact .inl ⟨g,cO hg,h⟩
  ·exact .inr h
def Ł.sys (h:Ł b):jA (Ζ b) ((Ê b).length+1):=by
 have hN:=h.nodes;have hL:=h.links
 have key:∀l∈Ζ b,((0≤l.1∧l.1<((Ê b).length+1:Nat))∧(0≤l.2.1∧l.2.1<((Ê b).length+1:Nat)))∧l.1≠l.2.1∧(-4503599627370496≤l.2.2∧l.2.2≤4503599627370496):=by
  intro l hl;rcases iT.1 hl with⟨i,g,hg,hl⟩|⟨c,hc,hl⟩
  ·have hgm:=cO hg;have hr:=h.gaugeR hgm;have ho:=aja h hg;have hp:=gS (pu (b:=b) g);have r1:=hr.2.2.2.2.2.1;have r2:=hr.2.2.2.2.2.2.1;rcases(ă h hg).1 hl with rfl|rfl|⟨k,d,e,hd,he,h1⟩
   ·dsimp only; omega
   ·dsimp only; omega
   ·obtain⟨h2,_⟩:=cI.1 he;have d1:=h.day hgm (cO hd);have lb:=wm h hgm (t:=e) d1.2.1;rcases h1 with rfl|rfl
    ·dsimp only; omega
    ·dsimp only; omega
  ·have a:=(Zt h hc).rng;have b':=(TI h hc).rng;have ne:=ahB h hc;have sb:=J7 h hc;rcases hl with rfl|rfl
   ·dsimp only; omega
   ·dsimp only; omega
 exact⟨by omega,by omega,by rw[aeC h]; omega,fun l hl=>(key l hl).1,fun l hl=>(key l hl).2.1,fun l hl=>(key l hl).2.2⟩
end
def Ŭ (b:ë) (x:List Int):Bool:=decide (x.length=(Ê b).length)&&x.all fun n=>inP n (-4503599627370496) 4503599627370496
def Qi {m:Maker} {x:List Int} (hn:m.2.1.length≤1000000):iw m x=some (if decide (x.length=m.2.1.length)&&x.all fun n=>inP n (-4503599627370496) 4503599627370496 then 0 else 1):=by
 unfold iw mQ
 by_cases hl:x.length=m.2.1.length
 ·rw[Í (by rw[Ò,Ò,hl]; simp[ine])];refine eA (Ĺ x (fun n=>!inP n (-4503599627370496) 4503599627370496) (fun z=>ifb (ige z 0) (some 1) (some 0)) (some 1) (some 0) (fun j=>?_) (fun i a hi ha kn=>?_) (fun kn=>?_)) ?_
  ·rw[Ø (by simp[ige])]
  ·try dsimp only
   unfold ς;rw[Ð hi,È ha,Μ,À,Ì hi (by omega),Ď]
  ·try dsimp only
   unfold ς;rw[Þ]
  ·rw[show(x.any fun n=>!inP n (-4503599627370496) 4503599627370496)=!(x.all fun n=>inP n (-4503599627370496) 4503599627370496) from by rw[gP]; simp]
   cases(x.all fun n=>inP n (-4503599627370496) 4503599627370496)<;>simp[hl]
 ·rw[Ø (by rw[Ò,Ò]; simp[ine]; omega)];simp[hl]
def Pf (b:ë) (x:List Int):Bool:=Pg (Ζ b) (0::x)
def Js (b:ë) (x:List Int):Bool×Int:=if ñ b≠0 then(false,ñ b) else if Ŭ b x then(Pf b x,0) else(false,1)
def Vk {b:ë} (h:Ł b) {x:List Int} (hx:Ŭ b x=true) (src:List (Int×Int)):nu (b,Ê b,(((Ê b).length:Int)+1,Ζ b),src) x=some (Pf b x):=by
 simp only[Ŭ,Bool.and_eq_true,decide_eq_true_eq,List.all_eq_true,inP] at hx;have hN:=h.nodes;unfold nu s7;rw[ċ (Õ (by simp only[List.length_singleton]; omega))]
 have:=XC h.sys (x:=[0]++x) (by simp; omega) (fun a ha=>by
  unfold Ŝ;rcases List.mem_append.1 ha with ha|ha
  ·simp at ha; omega
  ·have:=hx.2 a ha; omega)
 rw[show(((Ê b).length:Int)+1)=(((Ê b).length+1:Nat):Int) by push_cast; rfl]
 try dsimp only
 rw[this,À];unfold Pf;have e:gv ([0]++x) 0=0:=rfl;rw[e];simp
def ajR {b:ë} (hs:qF b) (hr:∀g∈b.2.1,I64 g.2.2.2.2.1.1) (x:List Int):JS b x=some (Js b x):=by
 unfold JS Tc Js;rw[kE hs hr,À]
 by_cases hc:ñ b=0
 ·have h:=(ö b).1 hc;have hN:=h.nodes;rw[Í (by simp[ine,hc]),Rm h,À,Qi (by dsimp only; omega),À,if_neg (show ¬(ñ b≠0) from fun h=>h hc)];rw[show(decide (x.length=(b,Ê b,(((Ê b).length:Int)+1,Ζ b),C5 b).2.1.length)&&x.all fun n=>inP n (-4503599627370496) 4503599627370496)=Ŭ b x from rfl]
  cases hl:Ŭ b x with
  |false=>rfl
  |true =>
   rw[if_pos rfl,Í (by rfl),Vk h hl,À,if_pos rfl]
 ·rw[Ø (by simp[ine,hc]),if_pos hc]
def XO (b:ë) (id day:Int):Bool:=b.2.2.1.any fun u=>u.1==id&&u.2==day
def afh (b:ë) (g:ò) (d:Int):Int:=match mb b g.1 d with|some l=>l.2.2|none=>if XO b g.1 d then g.2.2.2.2.2 else 0
def aew (l:NH) (id:Int) {f t:Int} (hft:f≤t):(if l.1=id∧0<Ğ l f (t+1) then Ğ l f (t+1)*l.2.2 else 0)=(if l.1=id∧0<Ğ l f t then Ğ l f t*l.2.2 else 0)+(if l.1=id∧l.2.1.1≤t∧t≤l.2.1.2 then l.2.2 else 0):=by
 by_cases hid:l.1=id
 ·by_cases h1:l.2.1.1≤t∧t≤l.2.1.2
  ·have e:Ğ l f (t+1)=Ğ l f t+1:=by unfold Ğ; omega
   have p:0≤Ğ l f t:=by unfold Ğ; omega
   rw[e,if_pos ⟨hid,by omega⟩,if_pos (show l.1=id∧l.2.1.1≤t∧t≤l.2.1.2 from⟨hid,h1⟩),gn,gD]
   by_cases hp:0<Ğ l f t
   ·rw[if_pos ⟨hid,hp⟩]
   ·rw[if_neg (fun h=>hp h.2)]
    have:Ğ l f t=0:=by omega
    rw[this];omega
  ·rw[if_neg (show ¬(l.1=id∧l.2.1.1≤t∧t≤l.2.1.2) from fun h=>h1 h.2),gJ]
   by_cases hlo:l.2.1.1≤t
   ·have e:Ğ l f (t+1)=Ğ l f t:=by unfold Ğ; omega
    rw[e]
   ·have p1:¬0<Ğ l f (t+1):=by unfold Ğ; omega
    have p2:¬0<Ğ l f t:=by unfold Ğ; omega
    rw[if_neg (fun h=>p1 h.2),if_neg (fun h=>p2 h.2)]
 ·rw[if_neg (fun h=>hid h.1),if_neg (fun h=>hid h.1),if_neg (fun h=>hid h.1)];rfl
def Qf (id:Int) {f t:Int} (hft:f≤t):∀{x:List NH},x.Pairwise (fun a c=>¬(a.1=c.1∧a.2.1.1≤c.2.1.2∧c.2.1.1≤a.2.1.2)) →
 ĺ id f (t+1) x=ĺ id f t x+(match x.find? (fun l=>l.1==id&&inP t l.2.1.1 l.2.1.2) with|some l=>l.2.2|none=>0)
 |[],_=>rfl
 |l::r,hp=>by
  rw[dt] at hp;have ih:=Qf id hft hp.2;simp only[ĺ];rw[ih,aew l id hft,fF]
  by_cases hm:l.1=id∧l.2.1.1≤t∧t≤l.2.1.2
  ·have e:(l.1==id&&inP t l.2.1.1 l.2.1.2)=true:=by simp[inP,hm.1,hm.2.1,hm.2.2]
   have hn:r.find? (fun l=>l.1==id&&inP t l.2.1.1 l.2.1.2)=none:=by
    rw[ej];intro c hc hcm;simp only[inP,cH,beq_iff_eq,decide_eq_true_eq] at hcm;exact hp.1 c hc ⟨by rw[hm.1,hcm.1],by omega,by omega⟩
   rw[if_pos hm,e,hn];simp only;omega
  ·have e:(l.1==id&&inP t l.2.1.1 l.2.1.2)=false:=by
    rw[eh];intro h;simp only[inP,cH,beq_iff_eq,decide_eq_true_eq] at h;exact hm h
   rw[if_neg hm,e];simp only;omega
section
variable {b:ë}
def Ł.apart (h:Ł b):b.2.2.2.1.Pairwise (fun a c=>¬(a.1=c.1∧a.2.1.1≤c.2.1.2∧c.2.1.1≤a.2.1.2)):=by
 rw[List.pairwise_iff_getElem];intro i j hi hj hij ⟨h1,h2,h3⟩;have hz:=h.loans j _ (List.getElem?_eq_getElem hj);unfold Tf at hz
 have hany:(b.2.2.2.1.take j).any (fun x=>x.1==b.2.2.2.1[j].1&&(decide (x.2.1.1≤b.2.2.2.1[j].2.1.2)&&decide (b.2.2.2.1[j].2.1.1≤x.2.1.2)))=true:=by
  rw[dj];exact⟨b.2.2.2.1[i],cS.2 ⟨i,by rw[cZ]; omega,by rw[eX]⟩,by simp[h1,h2,h3]⟩
 rw[hany] at hz
 (repeat' split at hz)<;>first|omega|simp_all
def Ł.notUsed (h:Ł b) {id d:Int} {l:NH} (hl:mb b id d=some l):XO b id d=false:=by
 have hm:=fC hl;have hp:=gj hl;simp only[inP,cH,beq_iff_eq,decide_eq_true_eq] at hp;obtain⟨j,hj,rfl⟩:=cS.1 hm;have hz:=h.loans j _ (cF hj);rw[eh];intro hu;obtain⟨u,hu,hue⟩:=dj.1 hu;simp only[cH,beq_iff_eq] at hue
 have hany:b.2.2.1.any (fun u=>u.1==b.2.2.2.1[j].1&&inP u.2 b.2.2.2.1[j].2.1.1 b.2.2.2.1[j].2.1.2)=true:=by
  rw[dj];exact⟨u,hu,by simp only[inP,cH,beq_iff_eq,decide_eq_true_eq]; exact⟨by rw[hue.1,hp.1],by omega,by omega⟩⟩
 unfold Tf at hz;rw[hany] at hz
 (repeat' split at hz)<;>first|omega|simp_all
def Uf {id f t:Int} (hft:f≤t):T7 (iX b id f (t+1))=T7 (iX b id f t)++if XO b id t then[t] else[]:=by
 have hm:∀t x,x∈iX b id f t↔XO b id x=true∧f≤x∧x<t:=by
  intro t x;unfold iX XO;simp only[List.mem_map,List.mem_filter,List.any_eq_true,inP,Bool.and_eq_true,beq_iff_eq,decide_eq_true_eq];constructor
  ·rintro⟨u,⟨h1,h2,h3,h4⟩,rfl⟩;exact⟨⟨u,h1,h2,rfl⟩,h3,by omega⟩
  ·rintro⟨⟨u,h1,h2,rfl⟩,h3,h4⟩;exact⟨u,⟨h1,h2,h3,by omega⟩,rfl⟩
 refine af7 (J5 _) ?_ fun x=>?_
 ·rw[fW]
  refine⟨J5 _,by split<;>simp,fun a ha c hc=>?_⟩
  rw[oU,hm] at ha
  split at hc
  ·rw[cP] at hc; omega
  ·cases hc
 ·rw[oU,hm,cM,oU,hm]
  by_cases hu:XO b id t=true
  ·rw[if_pos hu,cP];constructor
   ·rintro⟨h1,h2,h3⟩
    by_cases he:x=t
    ·exact .inr he
    ·exact .inl ⟨h1,h2,by omega⟩
   ·rintro(⟨h1,h2,h3⟩|rfl)
    ·exact⟨h1,h2,by omega⟩
    ·exact⟨hu,hft,by omega⟩
  ·rw[if_neg hu];constructor
   ·rintro⟨h1,h2,h3⟩;refine .inl ⟨h1,h2,?_⟩
    by_cases he:x=t
    ·rw[he] at h1; exact absurd h1 hu
    ·omega
   ·rintro(⟨h1,h2,h3⟩|h)
    ·exact⟨h1,h2,by omega⟩
    ·cases h
def WE (h:Ł b) (g:ò) {f t:Int} (hft:f≤t):kL b g f (t+1)=kL b g f t+afh b g t:=by
 unfold kL afh;rw[Qf g.1 hft h.apart,Uf hft];show ĺ g.1 f t b.2.2.2.1+(match mb b g.1 t with|some l=>l.2.2|none=>0)+_=_
 cases ha:mb b g.1 t with
 |some l =>
  rw[h.notUsed ha];simp only[cV,if_false,dh];omega
 |none =>
  simp only
  cases XO b g.1 t with
  |true=>simp only[if_true,cJ,dG,Int.natCast_add,gn]; omega
  |false=>simp only[cV,if_false,dh]; omega
def WF (g:ò) {f t:Int} (hft:t≤f):kL b g f t=0:=by
 unfold kL
 have h1:∀x:List NH,ĺ g.1 f t x=0:=by
  intro x
  induction x with
  |nil=>rfl
  |cons l r ih =>
   simp only[ĺ];rw[ih,if_neg (by unfold Ğ; omega)];rfl
 have h2:iX b g.1 f t=[]:=by
  unfold iX
  rw[gT.2 fun u hu hc=>by
   simp only[inP,cH,beq_iff_eq,decide_eq_true_eq] at hc
   omega]
  rfl
 rw[h1,h2];have h3:T7 ([]:List Int)=[]:=rfl;rw[h3];simp
end
def afW {ρ:Type}:@vL ρ=@iq ρ:=rfl
def afV {ρ:Type}:@vK ρ=@Ś ρ:=rfl
def afU {ρ:Type}:@vJ ρ=@Ĭ ρ:=rfl
def WR {ρ:Type} {N:Nat} (hN:N≤1000) (x:Option ρ):ä ((ile (0:Int) (N:Int))&&(ê N)) x=x:=by
 have:=EV hN x
 rwa [cT] at this
section
variable {L:List Lk} {N:Nat} {M:Int}
def adw {s:Int} (hs:0≤s∧s<N):(List.replicate N Ŝ).set s.toNat 0=vh (agq s) N:=by
 refine aaS (by simp[đ]) fun v h0 h1=>?_
 have hv:v<N:=by simpa using h1
 rw[i6 _ h0 hv,sr hs.1 h0 (by simp; omega)];unfold agq
 by_cases h:v=s
 ·simp[h]
 ·simp only[h,if_false,beq_iff_eq];unfold gv;rw[List.getElem?_replicate]
  have:v.toNat<N:=by omega
  simp[this]
def Xo (hL:iM L N M) (h1:1≤N) (hN:N≤200) (ho:kZ L N=true) {s:Int} (hs:0≤s∧s<N):uP ((N:Int),L) [] s=some (zk L N s):=by
 obtain⟨p,hp⟩:=(jX hL hN).1 ho;unfold uP GF;rw[afW,afV,afU];dsimp only;rw[EV (by omega),Int.toNat_natCast];refine ĩ (List.replicate N (0:Int)) (fun i=>List.replicate i Ŝ++List.replicate (N-i) 0) _ (by simp) (fun i a hi ha kn=>?_) (fun kn=>?_)
 ·dsimp only;unfold pk
  have hiN:i<N:=by simpa using hi
  have hl:i<(List.replicate i Ŝ++List.replicate (N-i) (0:Int)).length:=by simp; omega
  rw[Ð hi,Į hl,ô (cF hl),Ì hiN (by omega),cT];congr 2;rw[gw _ _ (by simp)]
  have:N-i=(N-(i+1))+1:=by omega
  rw[this,fw,gZ,f9,List.set_cons_zero,List.replicate_succ'];simp
 ·try dsimp only
  unfold pk;rw[Þ];dsimp only
  have e0:List.replicate (List.replicate N (0:Int)).length Ŝ++List.replicate (N-(List.replicate N (0:Int)).length) 0=List.replicate N Ŝ:=by simp
  rw[e0]
  have hlen:s.toNat<(List.replicate N Ŝ).length:=by simp; omega
  rw[show î (List.replicate N Ŝ)=((N:Nat):Int) by simp[î],ŭ hs.1 hs.2,jh hlen,WR (by omega),WR (by omega),adw hs];refine eA (aaO hL _) ?_
  have hS:∀v,agq s v=true→0≤v∧v<N:=fun v h=>by simp[agq] at h; subst h; exact hs
  refine adz (đ _ _) (by omega) _ fun w q hw hq hr hwq hqs=>?_;have hs0:=Py hL h1 hS hw hq hr hwq hqs;refine Up hL (ag3 hL hN) hp hS _ (fun x w t q hx hd=>?_) hs0
  have:x=zk L N s:=by
   refine aaS (by rw[hx]; unfold zk; rw[ť,đ]) fun v a b=>?_;exact hd.uniq (CQ hL hN hp hs) a (by omega)
  dsimp only;rw[this]
def ahW (h:jA L N) {ns:List Int} (hn:∀n∈ns,0≤n∧n<N) (hl:ns.length≤1000):Fl ((N:Int),L) ns=some (if kZ L N then 0 else 9):=by
 have h2:=h.n60;unfold Fl LB;rw[jL h,À];dsimp only;rw[Í (by rfl)];refine Eq.trans (jr ns (fun _=>false) (fun _=>some 1) (some (if kZ L N then 0 else 9)) (fun i n hi hm kn=>?_) (fun kn=>?_)) ?_
 ·try dsimp only
  unfold rW;have a:=hn n (List.mem_of_getElem? hm)
  have e:(decide (0≤n)&&decide (n<(N:Int)))=true:=by simp[a.1,a.2]
  rw[Ð hi,È hm,Ye,À,e,Ì hi (by omega)];simp
 ·try dsimp only
  unfold rW;rw[Þ,vk h.links h.n1 (by omega),À]
  cases kZ L N<;>rfl
 ·rw[dF.2 (by simp)]
end
def Jr:ë:=((0,0),[],[],[],[],[])
def aen (b:ë) (c:Cmp):Int:=Pm (š b c).1+(mn b c).1-c.2.2.2.2.2.1
def MM (b:ë) (c:Cmp):Int:=(š b c).2.1 / (š b c).2.2+(mn b c).2+c.2.2.2.2.2.1
def aab (b:ë) (c:Cmp) (s:Int×Int):(Int×Int)×Int:=if MM b c<aen b c then((0,0),5) else((s.1+aen b c,s.2+MM b c),0)
structure ajU (b:ë) (c:Cmp):Prop where
 nums:Yd c=true
 r1:vc (Ix (ő b) (û c.2.2.1 c.2.2.2.1)) 1000 100
 r2:vc (Ix (ő b) (û c.2.2.2.1 c.2.2.1)) 1000 100
def Ł.cmp {b:ë} (h:Ł b) {c:Cmp} (hc:c∈b.2.2.2.2.1):ajU b c:=⟨h.nums hc,(h.rates hc).1,(h.rates hc).2⟩
def Uu {b:ë} (hf:0≤b.1.1∧b.1.1≤b.1.2∧b.1.2≤1000000) {c:Cmp} (h:ajU b c):vc (š b c).1 2000000000 10000∧vc (š b c).2 2000000000 10000∧(-3000000000≤Pm (š b c).1+(mn b c).1∧Pm (š b c).1+(mn b c).1≤3000000000) ∧
 (-3000000000≤(š b c).2.1 / (š b c).2.2+(mn b c).2∧(š b c).2.1 / (š b c).2.2+(mn b c).2≤3000000000)∧(0≤c.2.2.2.2.2.1∧c.2.2.2.2.2.1≤1073741824):=by
 have hn:=(iO c).1 h.nums;have ha:=ţ hn.2.2.2.2.2.1;have hb:=ţ hn.2.2.2.2.2.2;obtain⟨g1,g2⟩:=Rc (QN h.r1 h.r2) hn.2.2.2.2.1;have fb:=CO (b:=b) (c:=c) (by omega) (by omega) (by omega) (by omega) (by omega) (by omega);have q1:vc (š b c).1 2000000000 10000:=g1;have q2:vc (š b c).2 2000000000 10000:=g2;have c1:=Hv q1;have c2:=CL q2;exact⟨q1,q2,by omega,by omega,hn.2.2.2.1⟩
def agJ {b:ë} (hs:qF b) (hf:0≤b.1.1∧b.1.1≤b.1.2∧b.1.2≤1000000) {c:Cmp} (h:ajU b c) {s:Int×Int} (h1 : -2305843009213693952≤s.1∧s.1≤2305843009213693952) (h2 : -2305843009213693952≤s.2∧s.2≤2305843009213693952):Fp b c s=some (aab b c s):=by
 have hn:=(iO c).1 h.nums;have ha:=ţ hn.2.2.2.2.2.1;have hb:=ţ hn.2.2.2.2.2.2;obtain⟨q1,q2,b1,b2,b3⟩:=Uu hf h;unfold Fp L5 aab aen MM;rw[WU hs (by omega) (by omega) h.r1 h.r2 hn.2.2.2.2.1,À,aa3 (by omega) (by omega) (by omega) (by omega) (by omega) (by omega),À,agm q1.rat,À,abA q2.rat,À];dsimp only;rw[Ô (by omega) (by omega),Ô (by omega) (by omega),Ô (by omega) (by omega),Ô (by omega) (by omega),Ď]
 by_cases hlt:(š b c).2.1 / (š b c).2.2+(mn b c).2+c.2.2.2.2.2.1<Pm (š b c).1+(mn b c).1-c.2.2.2.2.2.1
 ·rw[if_pos (by simpa[igt] using hlt),if_pos hlt]
 ·rw[if_neg (by simpa[igt] using hlt),if_neg hlt,Ô (by omega) (by omega),Ô (by omega) (by omega)]
structure In (b:ë):Prop where
 size:qF b
 num:∀g∈b.2.1,I64 g.2.2.2.2.1.1
def agf (b:ë):List (Int×Int)×Int:=if ñ b≠0 then([],ñ b) else(Ê b,0)
def aby {b:ë} (h:In b):yZ b=some (agf b):=by
 unfold yZ Mu agf;rw[kE h.size h.num,À]
 by_cases hc:ñ b=0
 ·rw[Í (by simp[ine,hc]),JB h.size,À,if_neg (show ¬(ñ b≠0) from fun h=>h hc)]
 ·rw[Ø (by simp[ine,hc]),if_pos hc]
def T4 (b:ë):Sys×List (Int×Int)×Int:=if ñ b≠0 then((0,[]),[],ñ b) else((((Ê b).length:Int)+1,Ζ b),C5 b,0)
def Xx {b:ë} (h:In b):iW b=some (T4 b):=by
 unfold iW G5 T4;rw[kE h.size h.num,À]
 by_cases hc:ñ b=0
 ·rw[Í (by simp[ine,hc]),Rm ((ö b).1 hc),À,if_neg (show ¬(ñ b≠0) from fun h=>h hc)]
 ·rw[Ø (by simp[ine,hc]),if_pos hc]
def cmp0:Cmp:=(0,0,[],[],0,0,0,0)
def ů (b:ë) (i:Int):Cmp×Int:=if ñ b≠0 then(cmp0,ñ b) else if i<0∨(b.2.2.2.2.1.length:Int)≤i then(cmp0,1) else(b.2.2.2.2.1[i.toNat]?.getD cmp0,0)
def agx {b:ë} (h:In b) (i:Int):Fo b i=some (ů b i):=by
 unfold Fo L3 ů;rw[kE h.size h.num,À]
 by_cases hc:ñ b=0
 ·rw[Í (by simp[ine,hc]),if_neg (show ¬(ñ b≠0) from fun h=>h hc),Ò]
  by_cases h1:i<0
  ·rw[Ø (by simp[ilt,h1]),if_pos (.inl h1)]; rfl
  ·rw[Í (by simp[ilt]; omega)]
   by_cases h2:(b.2.2.2.2.1.length:Int)≤i
   ·rw[Ø (by simp[ige,h2]),if_pos (.inr h2)]; rfl
   ·rw[Í (by simp[ige]; omega),if_neg (by omega)];obtain⟨j,rfl⟩:=fJ (show 0≤i by omega)
    have hj:j<b.2.2.2.2.1.length:=by omega
    rw[È (cF hj),cT,cF hj];rfl
 ·rw[Ø (by simp[ine,hc]),if_pos hc]; rfl
def XL {b:ë} {i:Int} (h:(ů b i).2=0):Ł b∧(ů b i).1∈b.2.2.2.2.1∧b.2.2.2.2.1[i.toNat]?=some (ů b i).1∧0≤i:=by
 unfold ů at h ⊢
 split at h
 ·rename_i hc; exact(hc h).elim
 ·rename_i hc
  have hc0:ñ b=0:=by simpa using hc
  split at h
  ·simp at h
  ·rename_i hi
   have hj:i.toNat<b.2.2.2.2.1.length:=by omega
   rw[if_neg hc,if_neg hi,cF hj];exact⟨(ö b).1 hc0,fe hj,rfl,by omega⟩
def Nz (b:ë) (g:Int) (ds:List Int):Int:=if ñ b≠0 then ñ b else if ds.any (fun d=>!JT d) then 1 else if (l5 (k:=tI) (v:=Ö) g (ő b)).isNone then 5 else 0
def af5 {b:ë} (h:In b) (g:Int) {ds:List Int} (hd:ds.length≤1000):Fq b g ds=some (Nz b g ds):=by
 unfold Fq Mn Nz;rw[kE h.size h.num,À]
 by_cases hc:ñ b=0
 ·rw[Í (by simp[ine,hc]),if_neg (show ¬(ñ b≠0) from fun h=>h hc)]
  have last:(Ä (Ń b) fun r9=>NK (k:=tI) (v:=Ö) g r9 (fun y10=>some (0:Int)) (some (5:Int)))=some (if (l5 (k:=tI) (v:=Ö) g (ő b)).isNone then 5 else 0):=by
   rw[FV h.size.gauges,À];unfold NK
   cases l5 (k:=tI) (v:=Ö) g (ő b)<;>rfl
  refine eA (Ĺ ds (fun d=>!JT d) (fun z5=>ifb (ige z5 (0:Int)) (some (1:Int)) (Ä (Ń b) fun r6=>NK (k:=tI) (v:=Ö) g r6 (fun y7=>some (0:Int)) (some (5:Int)))) (some 1) (some (if (l5 (k:=tI) (v:=Ö) g (ő b)).isNone then 5 else 0)) (fun j=>?_) (fun i d hi hdi kn=>?_) (fun kn=>?_)) ?_
  ·rw[Ø (by simp[ige])]
  ·try dsimp only
   unfold sk;rw[Ð hi,È hdi,JK,À,Ì hi (by omega),Ď]
  ·try dsimp only
   unfold sk;rw[Þ,last]
  ·cases ds.any (fun d=>!JT d)<;>rfl
 ·rw[Ø (by simp[ine,hc]),if_pos hc]
end Go.Proofs.ZzM
end
