/- lemmas -/
import Derived.Test.YtdmegkgjpgcfgaaGreatMdPA
import Derived.Test.YtdmegkgjpgcfgaaGreatMdTA
set_option linter.all false
set_option linter.unusedSectionVars false
set_option linter.unusedVariables false
set_option linter.unusedSimpArgs false
noncomputable section
namespace Go.Proofs.ZzM
open Go Go.Am
abbrev Lk:Type:=Int×Int×Int
inductive Wl (L:List Lk) (S:Int→Prop):List Int→Int→Int→Prop
 |nil {v:Int}:S v→Wl L S [] v 0
 |step {vs:List Int} {u v m d:Int}:Wl L S vs u d→(u,v,m)∈L→Wl L S (u::vs) v (d+m)
def Pot (L:List Lk) (p:Int→Int):Prop:=∀u v m,(u,v,m)∈L→p v≤p u+m
def InR (L:List Lk) (N:Nat):Prop:=∀l∈L,(0≤l.1∧l.1<N)∧(0≤l.2.1∧l.2.1<N)
section
variable {L:List Lk} {S:Int→Prop} {N:Nat} {p:Int→Int}
def Wl.cut (hp:Pot L p) {vs:List Int} {v d:Int} (h:Wl L S vs v d):∀x∈vs,∃vs1 d1,Wl L S vs1 x d1∧(x::vs1) <:+ vs∧d1+(p v-p x)≤d:=by
 induction h with
 |nil h=>intro x hx; cases hx
 | @step vs u v m d hw hl ih =>
  intro x hx;have h1:=hp u v m hl;rcases cF.1 hx with rfl|hx
  ·exact⟨vs,d,hw,List.suffix_refl _,by omega⟩
  ·obtain⟨vs1,d1,g1,g2,g3⟩:=ih x hx;exact⟨vs1,d1,g1,g2.trans (List.suffix_cons _ _),by omega⟩
def Wl.simple (hp:Pot L p) {vs:List Int} {v d:Int} (h:Wl L S vs v d):∃vs' d',Wl L S vs' v d'∧d'≤d∧(v::vs').Nodup:=by
 induction h with
 |nil h=>exact⟨[],0,.nil h,dC _,by simp⟩
 | @step vs u v m d hw hl ih =>
  obtain⟨vs1,d1,g1,g2,g3⟩:=ih;have hw1:=Wl.step g1 hl
  by_cases hv:v∈u::vs1
  ·obtain⟨vs2,d2,k1,k2,k3⟩:=hw1.cut hp v hv;exact⟨vs2,d2,k1,by omega,g3.sublist k2.sublist⟩
  ·exact⟨u::vs1,d1+m,hw1,by omega,eG.2 ⟨hv,g3⟩⟩
def Wl.range (hL:InR L N) (hS:∀v,S v→0≤v∧v<N) {vs:List Int} {v d:Int} (h:Wl L S vs v d):(0≤v∧v<N)∧∀u∈vs,0≤u∧u<N:=by
 induction h with
 |nil h=>exact⟨hS _ h,fun u hu=>by cases hu⟩
 | @step vs u v m d hw hl ih =>
  refine⟨(hL _ hl).2,fun w hw'=>?_⟩;rcases cF.1 hw' with rfl|h
  ·exact ih.1
  ·exact ih.2 w h
def Y4:∀(N:Nat) (l:List Int),l.Nodup→(∀x∈l,0≤x∧x<N)→l.length≤N
 |0,l,_,h=>by
  cases l with
  |nil=>simp
  |cons a l=>have:=h a (by simp); omega
 |N+1,l,hn,h=>by
  have h1:(l.erase (N:Int)).length≤N:=Y4 N _ (hn.erase _) fun x hx=>by
   have h2:=(hn.mem_erase_iff).1 hx;have:=h x h2.2;have:=h2.1;omega
  have:=List.length_erase (a:=(N:Int)) (l:=l)
  split at this<;>omega
def Wl.short (hL:InR L N) (hS:∀v,S v→0≤v∧v<N) {vs:List Int} {v d:Int} (h:Wl L S vs v d) (hn:(v::vs).Nodup):vs.length+1≤N:=by
 have:=h.range hL hS
 exact Y4 N (v::vs) hn fun x hx=>by
  rcases cF.1 hx with rfl|hx
  ·exact this.1
  ·exact this.2 x hx
def HC (f:Lk→Bool):List Lk→Int
 |[]=>0
 |l::t=>(if f l then min l.2.2 0 else 0)+HC f t
def acX (f:Lk→Bool):∀L:List Lk,HC (fun _=>true) L≤HC f L
 |[]=>dC _
 |l::t=>by
  have:=acX f t;simp only[HC,if_true]
  split<;>omega
def uF (f:Lk→Bool):∀L:List Lk,HC f L≤0
 |[]=>dC _
 |l::t=>by
  have:=uF f t;simp only[HC]
  split<;>omega
def Zk {f:Lk→Bool} {l:Lk} (hf:f l=true):∀{L:List Lk},l∈L→HC f L≤l.2.2
 |a::t,h=>by
  simp only[HC];rcases cF.1 h with rfl|h
  ·have:=uF f t;rw[if_pos hf]; omega
  ·have:=Zk hf h
   split<;>omega
def acW {f g:Lk→Bool} (h:∀l,f l=true→g l=false):∀L:List Lk,HC (fun l=>f l||g l) L=HC f L+HC g L
 |[]=>rfl
 |l::t=>by
  have ih:=acW h t;simp only[HC,ih]
  by_cases hf:f l=true
  ·simp[hf,h l hf]; omega
  ·have hf':f l=false:=by simpa using hf
   by_cases hg:g l=true
   ·simp[hf',hg]; omega
   ·simp[hf',hg]
def Wl.low {vs:List Int} {v d:Int} (h:Wl L S vs v d):vs.Nodup→HC (fun l=>vs.contains l.1) L≤d:=by
 induction h with
 |nil h=>intro _; exact uF _ _
 | @step vs u v m d hw hl ih =>
  intro hn;rw[eG] at hn;have h1:=ih hn.2;have h2:HC (fun l=>l.1==u) L≤m:=Zk (f:=fun l=>l.1==u) (l:=(u,v,m)) (by simp) hl
  have h3:=acW (f:=fun l:Lk=>l.1==u) (g:=fun l=>vs.contains l.1) (fun l hf=>by
   simp only[beq_iff_eq] at hf;rw[hf]
   simpa using hn.1) L
  have h4:(fun l:Lk=>(u::vs).contains l.1)=fun l=>(l.1==u)||vs.contains l.1:=by funext l; rw[List.contains_cons]
  rw[h4,h3];omega
def IG (L:List Lk):Int:=HC (fun _=>true) L
def Wl.low' (hp:Pot L p) {vs:List Int} {v d:Int} (h:Wl L S vs v d):IG L≤d:=by
 obtain⟨vs',d',h1,h2,h3⟩:=h.simple hp;have:=h1.low (List.nodup_cons.1 h3).2;have:=acX (fun l=>vs'.contains l.1) L;unfold IG;omega
def Wl.high {M:Int} (hM:∀l∈L,l.2.2≤M) {vs:List Int} {v d:Int} (h:Wl L S vs v d):d≤vs.length*M:=by
 induction h with
 |nil h=>simp
 | @step vs u v m d hw hl ih =>
  have:=hM _ hl;simp only[cN,gg,f5,gn];simp only at this;omega
def Wl.lowM {M:Int} (hM:∀l∈L,-M≤l.2.2) {vs:List Int} {v d:Int} (h:Wl L S vs v d) : -(vs.length*M)≤d:=by
 induction h with
 |nil h=>simp
 | @step vs u v m d hw hl ih =>
  have:=hM _ hl;simp only[cN,gg,f5,gn];simp only at this;omega
def Wl.mono {S':Int→Prop} (hS:∀v,S v→S' v) {vs:List Int} {v d:Int} (h:Wl L S vs v d):Wl L S' vs v d:=by
 induction h with
 |nil h=>exact .nil (hS _ h)
 |step hw hl ih=>exact .step ih hl
def Wl.pot (hp:Pot L p) {vs:List Int} {v d:Int} (h:Wl L S vs v d):∃s,S s∧p v-p s≤d:=by
 induction h with
 | @nil v h=>exact⟨v,h,by omega⟩
 | @step vs u v m d hw hl ih =>
  obtain⟨s,h1,h2⟩:=ih;have:=hp u v m hl;exact⟨s,h1,by omega⟩
end
abbrev ŋ:Int:=1152921504606846976
structure abN (L:List Lk) (S:Int→Prop) (N:Nat) (x:Int→Int):Prop where
 att:∀v:Int,0≤v→v<N→x v≠ŋ→∃vs,Wl L S vs v (x v)
 low:∀v vs d,Wl L S vs v d→x v≤d
 bd:∀v:Int,0≤v→v<N→x v≤ŋ
def abN.uniq {L:List Lk} {S:Int→Prop} {N:Nat} {x y:Int→Int} (hx:abN L S N x) (hy:abN L S N y) {v:Int} (h0:0≤v) (h1:v<N):x v=y v:=by
 have key:∀{x y:Int→Int},abN L S N x→abN L S N y→x v≤y v:=by
  intro x y hx hy
  by_cases h:y v=ŋ
  ·rw[h]; exact hx.bd v h0 h1
  ·obtain⟨vs,hw⟩:=hy.att v h0 h1 h;exact hx.low v vs _ hw
 exact Int.le_antisymm (key hx hy) (key hy hx)
def gv (x:List Int) (v:Int):Int:=x[v.toNat]?.getD 0
def Pn {x:List Int} {v:Int} (h:v.toNat<x.length):x[v.toNat]?=some (gv x v):=by
 unfold gv; rw[List.getElem?_eq_getElem h]; rfl
def rJ {x:List Int} {u v:Int} (hu:0≤u) (hv:0≤v) (h:u.toNat<x.length) (y:Int):gv (x.set u.toNat y) v=if v=u then y else gv x v:=by
 unfold gv;rw[List.getElem?_set]
 by_cases hvu:v=u
 ·subst hvu; simp[h]
 ·have:¬u.toNat=v.toNat:=by omega
  simp[hvu,this]
def ZC {x y:List Int} (hl:x.length=y.length) (h:∀v:Int,0≤v→v<x.length→gv x v=gv y v):x=y:=by
 refine List.ext_getElem hl fun i h1 h2=>?_;have:=h i (by omega) (by omega);unfold gv at this;simpa[h1,h2] using this
def lO (x:List Int) (l:Lk):List Int:=if gv x l.1<ŋ∧gv x l.1+l.2.2<gv x l.2.1 then x.set l.2.1.toNat (gv x l.1+l.2.2) else x
def HA (L:List Lk) (x:List Int):List Int:=L.foldl lO x
def kF (L:List Lk):Nat→List Int→List Int
 |0,x=>x
 |n+1,x=>kF L n (HA L x)
def ot (x:List Int) (l:Lk):(lO x l).length=x.length:=by unfold lO; split<;>simp
def wV (L:List Lk):∀x:List Int,(HA L x).length=x.length:=by
 induction L with
 |nil=>intro x; rfl
 |cons l t ih=>intro x; show(HA t (lO x l)).length=_; rw[ih,ot]
def Ġ (L:List Lk):∀(n:Nat) (x:List Int),(kF L n x).length=x.length
 |0,x=>rfl
 |n+1,x=>by rw[kF,Ġ L n,wV]
def Be (L:List Lk):∀(n:Nat) (x:List Int),kF L (n+1) x=HA L (kF L n x)
 |0,x=>rfl
 |n+1,x=>by rw[kF,Be L n]; rfl
section
variable {L0:List Lk} {S:Int→Prop} {N:Nat}
def Tj {x:List Int} {l:Lk} (hl:(0≤l.1∧l.1<N)∧(0≤l.2.1∧l.2.1<N)) (hx:x.length=N) (v:Int) (hv:0≤v):gv (lO x l) v≤gv x v:=by
 unfold lO
 split
 ·rename_i h;rw[rJ hl.2.1 hv (by omega)]
  split
  ·rename_i h2; subst h2; omega
  ·exact dC _
 ·exact dC _
def Cs:∀{L:List Lk},InR L N→∀{x:List Int},x.length=N→∀v,0≤v→gv (HA L x) v≤gv x v
 |[],_,x,_,v,_=>dC _
 |l::t,hL,x,hx,v,hv=>by
  have h1:=Tj (hL l (by simp)) hx v hv;have h2:=Cs (L:=t) (fun l hl=>hL l (by simp[hl])) (x:=lO x l) (by rw[ot,hx]) v hv;show gv (HA t (lO x l)) v≤_;omega
def E9:∀{L:List Lk},InR L N→∀{x:List Int},x.length=N→∀u v m,(u,v,m)∈L→gv x u<ŋ→gv (HA L x) v≤gv x u+m
 |l::t,hL,x,hx,u,v,m,hm,hf=>by
  have ht:InR t N:=fun l hl=>hL l (by simp[hl])
  have hx':(lO x l).length=N:=by rw[ot,hx]
  show gv (HA t (lO x l)) v≤_;rcases cF.1 hm with rfl|hm
  ·have hl:=hL (u,v,m) (by simp);have h2:=Cs ht hx' v hl.2.1
   have h3:gv (lO x (u,v,m)) v≤gv x u+m:=by
    unfold lO
    split
    ·rw[rJ hl.2.1 hl.2.1 (by simp only at hl; simp only; omega),if_pos rfl]; exact dC _
    ·rename_i h; simp only[not_and,Int.not_lt] at h; exact h hf
   omega
  ·have hl:=hL (u,v,m) (by simp[hm]);have h1:=Tj (hL l (by simp)) hx u hl.1.1;have:=E9 ht hx' u v m hm (by omega);omega
def Att (L0:List Lk) (S:Int→Prop) (N:Nat) (x:List Int):Prop:=∀v:Int,0≤v→v<N→gv x v<ŋ→∃vs,Wl L0 S vs v (gv x v)
def aaB {x:List Int} {l:Lk} (hl:(0≤l.1∧l.1<N)∧(0≤l.2.1∧l.2.1<N)) (hm:l∈L0) (hx:x.length=N) (h:Att L0 S N x):Att L0 S N (lO x l):=by
 unfold lO
 split
 ·rename_i hc;intro v h0 h1 hf;rw[rJ hl.2.1 h0 (by omega)] at hf ⊢
  split
  ·rename_i h2;obtain⟨vs,hw⟩:=h l.1 hl.1.1 hl.1.2 hc.1;exact⟨_,h2▸Wl.step hw hm⟩
  ·rename_i h2;rw[if_neg h2] at hf;exact h v h0 h1 hf
 ·exact h
def Tv:∀{L:List Lk},InR L N→(∀l∈L,l∈L0)→∀{x:List Int},x.length=N→Att L0 S N x→Att L0 S N (HA L x)
 |[],_,_,_,_,h=>h
 |l::t,hL,hsub,x,hx,h=>Tv (L:=t) (fun l hl=>hL l (by simp[hl])) (fun l hl=>hsub l (by simp[hl])) (x:=lO x l) (by rw[ot,hx]) (aaB (hL l (by simp)) (hsub l (by simp)) hx h)
def OC (hL:InR L0 N):∀(n:Nat) {x:List Int},x.length=N→Att L0 S N x→Att L0 S N (kF L0 n x)
 |0,_,_,h=>h
 |n+1,x,hx,h=>OC hL n (by rw[wV,hx]) (Tv hL (fun _ h=>h) hx h)
def Cr (hL:InR L0 N):∀(n:Nat) {x:List Int},x.length=N→∀v,0≤v→gv (kF L0 n x) v≤gv x v
 |0,_,_,_,_=>dC _
 |n+1,x,hx,v,hv=>Int.le_trans (Cr hL n (by rw[wV,hx]) v hv) (Cs hL hx v hv)
def uA (S:Int→Bool) (N:Nat):List Int:=(List.range N).map fun(i:Nat)=>if S i then 0 else ŋ
def iK (S:Int→Bool) {N:Nat} {v:Int} (h0:0≤v) (h1:v<N):gv (uA S N) v=if S v then 0 else ŋ:=by
 unfold gv uA
 have:v.toNat<N:=by omega
 rw[ej,fT this];simp only[dF,gK];rw[Int.toNat_of_nonneg h0]
def ï (S:Int→Bool) (N:Nat):(uA S N).length=N:=by simp[uA]
end
def E8 {L:List Lk} {S:Int→Bool} {N:Nat} {M:Int} (hL:InR L N) (hS:∀v,S v=true→0≤v∧v<N) (hM:∀l∈L,l.2.2≤M):∀(n:Nat),n*M<ŋ→0≤M→∀vs v d,Wl L (fun v=>S v=true) vs v d→vs.length≤n→gv (kF L n (uA S N)) v≤d
 |0,_,_,vs,v,d,hw,hl=>by
  cases hw with
  |nil h =>
   have:=hS v h;rw[kF,iK S this.1 this.2,if_pos h]; exact dC _
  |step=>simp at hl
 |n+1,hn,hM0,vs,v,d,hw,hl=>by
  have hn':n*M<ŋ:=by rw[gg,f5,gn] at hn; omega
  have hlen:(kF L n (uA S N)).length=N:=by rw[Ġ,ï]
  rw[Be]
  cases hw with
  |nil h =>
   have h1:=Cs hL hlen v (hS v h).1;have h2:=E8 hL hS hM n hn' hM0 [] v 0 (.nil h) (by simp);omega
  | @step vs u _ m d hw hlk =>
   have h2:=E8 hL hS hM n hn' hM0 vs u d hw (by simpa using hl);have h3:=hw.high hM;have h4:(vs.length:Int)*M≤n*M:=fp (by simp at hl; omega) hM0;have:=E9 hL hlen u v m hlk (by omega);omega
def Jo {L:List Lk} {S:Int→Bool} {N:Nat} {M:Int} {p:Int→Int} (hp:Pot L p) (hL:InR L N) (hS:∀v,S v=true→0≤v∧v<N) (hM:∀l∈L,l.2.2≤M) (hM0:0≤M) (hN:N*M<ŋ) (n:Nat) (hn:N≤n+1):abN L (fun v=>S v=true) N (gv (kF L n (uA S N))):=by
 have hatt:Att L (fun v=>S v=true) N (uA S N):=fun v h0 h1 hf=>by
  rw[iK S h0 h1] at hf ⊢
  split
  ·rename_i h; exact⟨[],.nil h⟩
  ·rename_i h; rw[if_neg h] at hf; omega
 have hbd:∀v:Int,0≤v→v<N→gv (kF L n (uA S N)) v≤ŋ:=fun v h0 h1=>by
  have:=Cr hL n (ï S N) v h0;rw[iK S h0 h1] at this
  have hF:(0:Int)≤ŋ:=by decide
  split at this<;>omega
 have hlow:∀(n:Nat),N≤n+1→∀v vs d,Wl L (fun v=>S v=true) vs v d→gv (kF L n (uA S N)) v≤d:=by
  intro n hn v vs d hw;obtain⟨vs',d',h1,h2,h3⟩:=hw.simple hp;have h4:=h1.short hL hS h3
  have hpos:0<N:=by omega
  obtain⟨k,rfl⟩:∃k,N=k+1:=⟨N-1,by omega⟩
  have hk:(k:Int)*M<ŋ:=by rw[gg,f5,gn] at hN; omega
  have h5:=E8 hL hS hM k hk hM0 vs' v d' h1 (by omega);obtain⟨j,rfl⟩:∃j,n=k+j:=⟨n-k,by omega⟩
  have h6:∀(j:Nat),gv (kF L (k+j) (uA S (k+1))) v≤gv (kF L k (uA S (k+1))) v:=by
   intro j
   induction j with
   |zero=>exact dC _
   |succ j ih =>
    rw[←Nat.add_assoc,Be];have:=Cs hL (x:=kF L (k+j) (uA S (k+1))) (by rw[Ġ,ï]) v (h1.range hL hS).1.1;omega
  have:=h6 j;omega
 exact⟨fun v h0 h1 hne=>OC hL n (ï S N) hatt v h0 h1 (by have:=hbd v h0 h1; omega),hlow n hn,hbd⟩
def abN.pot {L:List Lk} {S:Int→Prop} {N:Nat} {x:Int→Int} (h:abN L S N x) (hL:InR L N) {u v m:Int} (hl:(u,v,m)∈L) (hf:x u≠ŋ):x v≤x u+m:=by
 obtain⟨vs,hw⟩:=h.att u (hL _ hl).1.1 (hL _ hl).1.2 hf;exact h.low v _ _ (.step hw hl)
section
variable {α:Type} (key:α→Int)
def Srt (l:List α):Prop:=l.Pairwise fun x y=>key x≤key y
def Stb (l s:List α):Prop:=∀k:Int,s.filter (fun x=>key x==k)=l.filter (fun x=>key x==k)
variable {key}
def Stb.refl (l:List α):Stb key l l:=fun _=>rfl
def Stb.symm {l s:List α} (h:Stb key l s):Stb key s l:=fun k=>(h k).symm
def Stb.trans {l s t:List α} (h:Stb key l s) (h2:Stb key s t):Stb key l t:=fun k=>(h2 k).trans (h k)
def Stb.append {l s l' s':List α} (h:Stb key l s) (h2:Stb key l' s'):Stb key (l++l') (s++s'):=fun k=>by
 rw[eN,eN,h k,h2 k]
def Stb.mem {l s:List α} (h:Stb key l s) {x:α}:x∈s↔x∈l:=by
 have:=h (key x);constructor
 ·intro hx;have:x∈s.filter fun y=>key y==key x:=dP.2 ⟨hx,by simp⟩;rw[h] at this;exact(dP.1 this).1
 ·intro hx;have:x∈l.filter fun y=>key y==key x:=dP.2 ⟨hx,by simp⟩;rw[←h] at this;exact(dP.1 this).1
def Stb.swap {u v:List α} (h:∀x∈u,∀y∈v,key x≠key y):Stb key (u++v) (v++u):=fun k=>by
 rw[eN,eN]
 by_cases hu:∃x∈u,key x=k
 ·obtain⟨x,hx,rfl⟩:=hu
  have:v.filter (fun y=>key y==key x)=[]:=gJ.2 fun y hy=>by
   have:=h x hx y hy;simp; omega
  rw[this]; simp
 ·have:u.filter (fun y=>key y==k)=[]:=gJ.2 fun y hy=>by
   simp;exact fun e=>hu ⟨y,hy,e⟩
  rw[this]; simp
def Stb.uniq:∀{s t:List α},Srt key s→Srt key t→Stb key s t→s=t
 |[],[],_,_,_=>rfl
 |[],y::t,_,_,h=>absurd ((h.mem (x:=y)).1 (by simp)) (by simp)
 |x::s,[],_,_,h=>absurd ((h.mem (x:=x)).2 (by simp)) (by simp)
 |x::s,y::t,hs,ht,h=>by
  have h1:=dk.1 hs;have h2:=dk.1 ht
  have hk:key x=key y:=by
   have a1:key x≤key y:=by
    rcases cF.1 ((h.mem (x:=y)).1 (by simp)) with e|hm
    ·rw[e]; exact dC _
    ·exact h1.1 y hm
   have a2:key y≤key x:=by
    rcases cF.1 ((h.mem (x:=x)).2 (by simp)) with e|hm
    ·rw[e]; exact dC _
    ·exact h2.1 x hm
   omega
  have hx:x=y:=by
   have:=h (key x);have hky:(key y==key x)=true:=beq_iff_eq.2 hk.symm;have hkx:(key x==key x)=true:=beq_iff_eq.2 rfl;simp only[d9,hky,hkx,if_true] at this;exact(List.cons.inj this).1.symm
  subst hx;congr 1;refine Stb.uniq h1.2 h2.2 fun k=>?_;have:=h k
  by_cases hk:key x=k
  ·rw[List.filter_cons_of_pos (by simp[hk]),List.filter_cons_of_pos (by simp[hk])] at this;exact(List.cons.inj this).2
  ·rw[List.filter_cons_of_neg (by simp[hk]),List.filter_cons_of_neg (by simp[hk])] at this;exact this
variable (key)
def aa7 (x:α):List α→List α
 |[]=>[x]
 |y::l=>if key x≤key y then x::y::l else y::aa7 x l
def ĸ (l:List α):List α:=l.foldr (aa7 key) []
variable {key}
def RS (x:α):∀l:List α,Stb key (x::l) (aa7 key x l)
 |[]=>Stb.refl _
 |y::l=>by
  unfold aa7
  split
  ·exact Stb.refl _
  ·rename_i h;refine Stb.trans (s:=y::x::l) ?_ fun k=>?_
   ·have:=Stb.swap (key:=key) (u:=[x]) (v:=[y]) (fun a ha b hb=>by simp at ha hb; subst ha hb; omega);exact(this.append (Stb.refl l))
   ·have:=RS x l k;simp only[d9];rw[this];simp only[d9]
def afT {x z:α} {l:List α}:z∈aa7 key x l↔z=x∨z∈l:=by
 rw[(RS x l).mem,cF]
def Zz (x:α):∀{l:List α},Srt key l→Srt key (aa7 key x l)
 |[],_=>fu _ _
 |y::l,h=>by
  have h1:=List.pairwise_cons.1 h;unfold aa7
  split
  ·rename_i hx;refine List.Pairwise.cons (fun z hz=>?_) h;rcases cF.1 hz with rfl|hz
   ·exact hx
   ·exact Int.le_trans hx (h1.1 z hz)
  ·rename_i hx;refine List.Pairwise.cons (fun z hz=>?_) (Zz x h1.2);rcases afT.1 hz with rfl|hz
   ·omega
   ·exact h1.1 z hz
def jH:∀l:List α,Srt key (ĸ key l)
 |[]=>List.Pairwise.nil
 |x::l=>Zz x (jH l)
def Ŋ:∀l:List α,Stb key l (ĸ key l)
 |[]=>Stb.refl _
 |x::l=>by
  have:Stb key (x::l) (x::ĸ key l):=(Stb.refl [x]).append (Ŋ l);exact this.trans (RS x _)
def vE {l s:List α} (h:Srt key s) (h2:Stb key l s):ĸ key l=s:=Stb.uniq (jH l) h ((Ŋ l).symm.trans h2)
def Stb.perm {l s:List α} [DecidableEq α] (h:Stb key l s):s.Perm l:=by
 rw[List.perm_iff_count];intro x
 have e:∀l:List α,l.count x=(l.filter fun y=>key y==key x).count x:=fun l=>by
  rw[List.count_filter];simp
 rw[e s,e l,h]
def Stb.length {l s:List α} (h:Stb key l s):s.length=l.length:=by
 classical
 exact h.perm.length_eq
def Srt.append {l s:List α} (h:Srt key l) (h2:Srt key s) (h3:∀x∈l,∀y∈s,key x≤key y):Srt key (l++s):=fM.2 ⟨h,h2,h3⟩
def Srt.parts {l s:List α} (h:Srt key (l++s)):Srt key l∧Srt key s∧∀x∈l,∀y∈s,key x≤key y:=fM.1 h
end
abbrev Way:=List (List Int)
abbrev Ĺ:=Val Â
def Ē (m:Ĺ) (x:Way):Int:=(ĭ m x).getD 0
def WOk (m:Ĺ) (l:List Way):Prop:=∀x∈l,ĭ m x=some (Ē m x)
section
variable {ρ:Type} {m:Ĺ}
def aea (a b:Int):g8 a b=some (if a<b then -1 else if b<a then 1 else 0):=by
 unfold g8 mu lq pN
 have e:∀x:Int,ine x x=false:=fun x=>by simp[ine]
 rw[e,e,À,À,é,é]
 by_cases h:a<b
 ·rw[Ù (decide_eq_true h),if_pos h]
 ·rw[Î (decide_eq_false h),if_neg h]
  by_cases h2:b<a
  ·rw[Ù (decide_eq_true h2),if_pos h2]
  ·rw[Î (decide_eq_false h2),if_neg h2]
def SO {x y:Way} (hx:ĭ m x=some (Ē m x)) (hy:ĭ m y=some (Ē m y)):ji x y m=some (if Ē m x<Ē m y then -1 else if Ē m y<Ē m x then 1 else 0):=by
 unfold ji Fs;rw[hx,À,hy,À,aea,À]
def Zu {x y:Way} (hx:ĭ m x=some (Ē m x)) (hy:ĭ m y=some (Ē m y)) (X Y:Option ρ):(Ä (ji x y m) fun r=>ifb (ilt r (0:Int)) X Y)=if Ē m x<Ē m y then X else Y:=by
 rw[SO hx hy,À]
 by_cases h:Ē m x<Ē m y
 ·rw[if_pos h,if_pos h]; rfl
 ·rw[if_neg h,if_neg h]
  by_cases h2:Ē m y<Ē m x
  ·rw[if_pos h2]; rfl
  ·rw[if_neg h2]; rfl
def ahV {α:Type} (A:List α) (x:α) (B:List α):(A++x::B)[A.length]?=some x:=by simp
def ahv {α:Type} (A:List α) (x y:α) (B:List α):(A++x::B).set A.length y=A++y::B:=by simp
def iH {α:Type} {l A B:List α} {x:α} {i:Int} (h:l=A++x::B) (hi:i=A.length) (K:α→Option ρ):(ç ((ile (0:Int) i)&&(ilt i (ñ l))) (ł l (Int.toNat i) K))=K x:=by
 subst h hi;rw[Ć (by simp[ile,ilt,ñ]; omega),cP,jd (ahV A x B)]
def GP {α:Type} {l A B:List α} {x:α} {i:Int} (h:l=A++x::B) (hi:i=A.length) (y:α):List.set l (Int.toNat i) y=A++y::B:=by
 subst h hi;rw[cP,ahv]
def ins_L1 {c0:Int} {A C:List Way} {x y:Way} (hx:ĭ m x=some (Ē m x)) (hy:ĭ m y=some (Ē m y)) (hc:c0≤A.length) (hl:A.length≤1000000) (kn:Int→List Way→Option ρ) (k0:List Way→Option ρ) :
 æ c0 m.1.1.1 m.1.1.2 m.1.2.1 m.1.2.2.1 m.1.2.2.2.1 m.1.2.2.2.2.1 m.1.2.2.2.2.2 m.2 ((A.length:Int)+1) (A++y::x::C) kn k0 =
  if Ē m x<Ē m y then kn A.length (A++x::y::C) else k0 (A++y::x::C):=by
 have e1:((A.length:Int)+1-1)=A.length:=by omega
 have s1:A++y::x::C=(A++[y])++x::C:=by simp
 have l1:((A.length:Int)+1)=(A++[y]).length:=by simp
 unfold æ;rw[Ù (decide_eq_true (by omega)),iH s1 l1,e1,Ô (by omega) (by omega),iH (A:=A) (x:=y) (B:=x::C) rfl rfl];refine(Zu hx hy _ _).trans ?_
 split
 ·rw[Ô (by omega) (by omega),Ô (by omega) (by omega),iH (A:=A) (x:=y) (B:=x::C) rfl rfl,iH s1 l1,iH s1 l1,GP s1 l1]
  have s2:A++[y]++y::C=A++y::y::C:=by simp
  rw[s2,iH (A:=A) (x:=y) (B:=y::C) rfl rfl,GP (A:=A) (x:=y) (B:=y::C) rfl rfl,Ô (by omega) (by omega)]
 ·rfl
def afS {c0:Int} {P S Q:List Way} {x:Way} (hP:c0=P.length) (hS:Srt (Ē m) S) (hW:WOk m (x::S)) (hl:P.length+S.length≤1000000) (K:List Way→Option ρ) :
 Ë (fun(v:Int×List Way) kk=>æ c0 m.1.1.1 m.1.1.2 m.1.2.1 m.1.2.2.1 m.1.2.2.2.1 m.1.2.2.2.2.1 m.1.2.2.2.2.2 m.2 v.1 v.2 (fun a b=>kk (a,b)) K) (((P.length+S.length:Nat):Int),P++(S++x::Q))=K (P++(ĸ (Ē m) (S++[x])++Q)):=by
 subst hP;have hxW:=hW x (by simp)
 -- when it stops
 have stop:∀A B:List Way,S=A++B→(∀t∈B,Ē m x<Ē m t)→(∀t∈A,Ē m t≤Ē m x)→ĸ (Ē m) (S++[x])=A++x::B:=fun A B hAB hB hA=>by
  subst hAB;obtain⟨h1,h2,h3⟩:=hS.parts;refine vE ?_ ?_
  ·refine h1.append (List.Pairwise.cons (fun t ht=>by have:=hB t ht; omega) h2) fun a ha b hb=>?_;rcases cF.1 hb with rfl|hb
   ·exact hA a ha
   ·exact h3 a ha b hb
  ·have:=Stb.swap (key:=Ē m) (u:=B) (v:=[x]) (fun a ha b hb=>by simp at hb; subst hb; have:=hB a ha; omega);have h4:=(Stb.refl (key:=Ē m) A).append this;rw[←cJ] at h4;exact h4
 refine Ě (fun v:Int×List Way=>∃A B:List Way,S=A++B∧(∀t∈B,Ē m x<Ē m t)∧v=(((P.length+A.length:Nat):Int),P++(A++x::(B++Q)))) (fun v=>v.1.toNat) ?_ ⟨S,[],by simp,by simp,by simp⟩;rintro v ⟨A,B,hAB,hB,rfl⟩
 cases hA:A.reverse with
 |nil =>
  have hA0:A=[]:=by simpa using hA
  subst hA0;refine .inl fun kn=>?_;dsimp only;unfold æ;rw[Î (decide_eq_false (by simp)),stop [] B hAB hB (by simp)];simp
 |cons y A' =>
  have hA0:A=A'.reverse++[y]:=by
   have:=congrArg List.reverse hA;simpa using this
  generalize A'.reverse=A1 at hA0;subst hA0;have hyW:ĭ m y=some (Ē m y):=hW y (by rw[hAB]; simp)
  have hstep:∀kn:Int×List Way→Option ρ,æ (P.length:Int) m.1.1.1 m.1.1.2 m.1.2.1 m.1.2.2.1 m.1.2.2.2.1 m.1.2.2.2.2.1 m.1.2.2.2.2.2 m.2 ((P.length+(A1++[y]).length:Nat):Int) (P++(A1++[y]++x::(B++Q))) (fun a b=>kn (a,b)) K =
   if Ē m x<Ē m y then kn (((P.length+A1.length:Nat):Int),P++(A1++x::(y::B++Q))) else K (P++(A1++[y]++x::(B++Q))):=fun kn=>by
   have e1:((P.length+(A1++[y]).length:Nat):Int)=((P++A1).length:Int)+1:=by simp; omega
   have e2:P++(A1++[y]++x::(B++Q))=(P++A1)++y::x::(B++Q):=by simp
   have hlen:A1.length≤S.length:=by rw[hAB]; simp
   rw[e1,e2,ins_L1 hxW hyW (by simp; omega) (by simp; omega)];simp
  by_cases hxy:Ē m x<Ē m y
  ·refine .inr ⟨(((P.length+A1.length:Nat):Int),P++(A1++x::(y::B++Q))),⟨A1,y::B,by rw[hAB]; simp,fun t ht=>?_,rfl⟩,by simp; omega,fun kn=>(hstep kn).trans (if_pos hxy)⟩;rcases cF.1 ht with rfl|ht
   ·exact hxy
   ·exact hB t ht
  ·refine .inl fun kn=>(hstep kn).trans ?_;rw[if_neg hxy,stop (A1++[y]) B hAB hB fun t ht=>?_]
   ·simp
   ·obtain⟨h1,_,_⟩:=Srt.parts (hAB▸hS);obtain⟨_,_,h3⟩:=Srt.parts h1;rcases cE.1 ht with ht|ht
    ·have:=h3 t ht y (by simp); omega
    ·simp at ht; subst ht; omega
def WOk.sub {l s:List Way} (h:WOk m l) (hs:∀x∈s,x∈l):WOk m s:=fun x hx=>h x (hs x hx)
def Hk {P M Q:List Way} (hW:WOk m M) (hl:P.length+M.length≤1000000):ä (P++(M++Q)) P.length ((P.length+M.length:Nat):Int) m=some (P++(ĸ (Ē m) M++Q),m):=by
 unfold ä Ũ;rw[Ô (by omega) (by omega)];refine Ě (fun v:Int×List Way=>(M.length=0∧v=((P.length:Int)+1,P++(M++Q)))∨∃k:Nat,1≤k∧k≤M.length∧v=(((P.length+k:Nat):Int),P++(ĸ (Ē m) (M.take k)++(M.drop k++Q)))) (fun v=>(P.length+M.length+1)-v.1.toNat) ?_ ?_
 ·rintro v (⟨h0,rfl⟩|⟨k,hk1,hk2,rfl⟩)
  ·refine .inl fun kn=>?_;have:M=[]:=List.length_eq_zero_iff.1 h0;subst this;dsimp only;unfold ĉ;rw[Î (decide_eq_false (by simp; omega))];rfl
  ·rcases fZ hk2 with h|rfl
   ·have hg:M[k]?=some M[k]:=cw h;have hd:M.drop k=M[k]::M.drop (k+1):=du h;have ht:M.take (k+1)=M.take k++[M[k]]:=take_succ hg;have hmem:M[k]∈M:=fc h;generalize M[k]=x at hg hd ht hmem
    have hlk:(ĸ (Ē m) (M.take k)).length=k:=by rw[(Ŋ _).length]; simp; omega
    refine .inr ⟨(((P.length+(k+1):Nat):Int),P++(ĸ (Ē m) (M.take (k+1))++(M.drop (k+1)++Q))),.inr ⟨k+1,by omega,h,rfl⟩,by dsimp only; omega,fun kn=>?_⟩;dsimp only;unfold ĉ;rw[Ù (decide_eq_true (by omega)),hd]
    have:=afS (m:=m) (c0:=(P.length:Int)) (P:=P) (S:=ĸ (Ē m) (M.take k)) (Q:=M.drop (k+1)++Q) (x:=x) rfl (jH _) (fun y hy=>by
     rcases cF.1 hy with rfl|hy
     ·exact hW _ hmem
     ·exact hW _ (fL ((Ŋ _).mem.1 hy))) (by omega) (fun z13=>ck (((P.length+k:Nat):Int)+(1:Int)) fun n14=>kn (n14,z13))
    rw[hlk] at this;refine this.trans ?_;rw[Ô (by omega) (by omega)];congr 1;refine Prod.ext (by dsimp only; omega) ?_;dsimp only
    have e:ĸ (Ē m) (ĸ (Ē m) (M.take k)++[x])=ĸ (Ē m) (M.take (k+1)):=by
     rw[ht];exact vE (jH _) (((Ŋ (M.take k)).append (Stb.refl [x])).symm.trans (Ŋ _))
    rw[e]
   ·refine .inl fun kn=>?_;dsimp only;unfold ĉ;rw[Î (decide_eq_false (by omega))];simp
 ·cases M with
  |nil=>exact .inl ⟨rfl,rfl⟩
  |cons a M =>
   refine .inr ⟨1,cz _,by simp,?_⟩;refine Prod.ext (by simp) ?_;simp[ĸ,aa7]
end
section
variable {ρ:Type} {m:Ĺ}
def rot_L2:@gW ρ=@Ĉ ρ:=rfl
def rot_L3:@gT ρ=@Ĉ ρ:=rfl
def uz {A U B V C:List Way} (hn:V.length=U.length) {a b n:Int} (ha:a=A.length) (hb:b=((A.length+U.length+B.length:Nat):Int)) (hnn:n=U.length) (hl:A.length+U.length+B.length+V.length≤1000000) (K:List Way→Option ρ) :
 Ë (fun(v:Int×List Way) kk=>Ĉ a b n v.1 v.2 (fun x y=>kk (x,y)) K) ((0:Int),A++(U++(B++(V++C))))=K (A++(V++(B++(U++C)))):=by
 subst ha hb hnn;refine ĩ (List.replicate U.length ()) (fun i=>A++(V.take i++(U.drop i++(B++(U.take i++(V.drop i++C)))))) _ (by simp) (fun i x hi hx kn=>?_) (fun kn=>?_)
 ·try dsimp only
  rw[fg] at hi;have hu:U.drop i=U[i]::U.drop (i+1):=du hi;have hv:V.drop i=V[i]::V.drop (i+1):=du (by omega);have htu:U.take (i+1)=U.take i++[U[i]]:=take_succ (cw hi);have htv:V.take (i+1)=V.take i++[V[i]]:=take_succ (cw (by omega));generalize U[i]=u at hu htu;generalize V[i]=v at hv htv
  have lu:(U.take i).length=i:=by simp; omega
  have lv:(V.take i).length=i:=by simp; omega
  have ldu:(U.drop (i+1)).length=U.length-(i+1):=by simp
  rw[hu,hv,htu,htv];generalize U.drop (i+1)=U2 at *;generalize V.drop (i+1)=V2 at *;generalize U.take i=U1 at *;generalize V.take i=V1 at *;unfold Ĉ
  -- the places
  have s1:A++(V1++(u::U2++(B++(U1++(v::V2++C)))))=(A++V1)++u::(U2++(B++(U1++(v::V2++C)))):=by simp
  have s2:A++(V1++(u::U2++(B++(U1++(v::V2++C)))))=(A++(V1++(u::U2++(B++U1))))++v::(V2++C):=by simp
  have p1:(A.length:Int)+i=(A++V1).length:=by simp; omega
  have p2:((A.length+U.length+B.length:Nat):Int)+i=(A++(V1++(u::U2++(B++U1)))).length:=by simp; omega
  have s3:(A++V1)++v::(U2++(B++(U1++(v::V2++C))))=(A++(V1++(v::U2++(B++U1))))++v::(V2++C):=by simp
  have p3:((A.length+U.length+B.length:Nat):Int)+i=(A++(V1++(v::U2++(B++U1)))).length:=by simp; omega
  rw[Ù (decide_eq_true (by omega)),Ô (by omega) (by omega),Ô (by omega) (by omega),Ô (by omega) (by omega),iH s2 p2,Ô (by omega) (by omega),iH s1 p1,iH s1 p1,GP s1 p1,iH s3 p3,GP s3 p3,Ô (by omega) (by omega)];simp
 ·try dsimp only
  unfold Ĉ;rw[List.length_replicate,Î (decide_eq_false (by omega))];rw[List.take_of_length_le (l:=V) (by omega),List.drop_of_length_le (l:=U) (by omega),List.take_of_length_le (l:=U) (by omega),List.drop_of_length_le (l:=V) (by omega)];simp
def acs {A U V C:List Way} (hU:1≤U.length) (hV:1≤V.length) (hl:A.length+U.length+V.length≤1000000) :
 į (A++(U++(V++C))) A.length ((A.length+U.length:Nat):Int) ((A.length+U.length+V.length:Nat):Int) m=some (A++(V++(U++C)),m):=by
 unfold į iV;rw[Ô (by omega) (by omega),Ô (by omega) (by omega)];refine Ě (fun v:Int×Int×List Way=>∃L X Y R:List Way,1≤X.length∧1≤Y.length∧L.length+X.length=U.length∧Y.length+R.length=V.length∧L++(Y++(X++R))=V++U∧v=((X.length:Int),(Y.length:Int),A++(L++(X++(Y++(R++C)))))) (fun v=>v.1.toNat+v.2.1.toNat) ?_ ⟨[],U,V,[],hU,hV,by simp,by simp,by simp,?_⟩
 rotate_left
 ·rw[Prod.mk.injEq,Prod.mk.injEq];refine⟨?_,?_,by simp⟩
  ·show((A.length+U.length:Nat):Int)-(A.length:Int)=(U.length:Int);omega
  ·show((A.length+U.length+V.length:Nat):Int)-((A.length+U.length:Nat):Int)=(V.length:Int);omega
 rintro v ⟨L,X,Y,R,hX,hY,h1,h2,h3,rfl⟩
 by_cases hxy:X.length=Y.length
 ·refine .inl fun kn=>?_;dsimp only;unfold Ĭ;rw[Î (by simp[ine,hxy])];dsimp only;rw[rot_L3,Ô (by omega) (by omega)];have:=uz (A:=A++L) (U:=X) (B:=[]) (V:=Y) (C:=R++C) hxy.symm (a:=((A.length+U.length:Nat):Int)-X.length) (b:=((A.length+U.length:Nat):Int)) (n:=X.length) (by simp; omega) (by simp; omega) rfl (by simp; omega) (fun z48=>some (z48,m))
  have e1:(A++L)++(X++([]++(Y++(R++C))))=A++(L++(X++(Y++(R++C)))):=by simp
  rw[e1] at this;refine this.trans ?_
  have e2:A++L++(Y++([]++(X++(R++C))))=A++((L++(Y++(X++R)))++C):=by simp
  rw[e2,h3];simp
 ·by_cases hgt:Y.length<X.length
  ·-- the first part of X and Y change places
   have l1:(X.take Y.length).length=Y.length:=by simp; omega
   have l2:(X.drop Y.length).length=X.length-Y.length:=by simp
   have ex:X=X.take Y.length++X.drop Y.length:=(dK _ _).symm;generalize X.take Y.length=X1 at l1 ex;generalize X.drop Y.length=X2 at l2 ex;subst ex;refine .inr ⟨((X2.length:Int),(X1.length:Int),A++((L++Y)++(X2++(X1++(R++C))))),⟨L++Y,X2,X1,R,by simp at l2 hgt; omega,by omega,by simp at h1 ⊢; omega,by omega,?_,rfl⟩,by simp at l2 ⊢; omega,fun kn=>?_⟩
   ·rw[←h3]; simp
   ·dsimp only;unfold Ĭ;have hg1:ine ((X1++X2).length:Int) (Y.length:Int)=true:=bne_iff_ne.2 (by omega);rw[Ù hg1,Ù (decide_eq_true (by omega)),Ô (by simp at h1 ⊢; omega) (by simp at h1 ⊢; omega)];have:=uz (A:=A++L) (U:=X1) (B:=X2) (V:=Y) (C:=R++C) l1.symm (a:=((A.length+U.length:Nat):Int)-(X1++X2).length) (b:=((A.length+U.length:Nat):Int)) (n:=Y.length) (by simp at h1 ⊢; omega) (by simp at h1 ⊢; omega) (by omega) (by simp at h1 ⊢; omega) (fun z13=>ck (((X1++X2).length:Int)-(Y.length:Int)) fun n14=>kn (n14,((Y.length:Int),z13)))
    have e1:(A++L)++(X1++(X2++(Y++(R++C))))=A++(L++(X1++X2++(Y++(R++C)))):=by simp
    rw[e1] at this;refine this.trans ?_;rw[Ô (by simp; omega) (by simp; omega)];congr 1;rw[Prod.mk.injEq,Prod.mk.injEq];exact⟨by simp; omega,by omega,by simp⟩
  ·have l1:(Y.drop (Y.length-X.length)).length=X.length:=by simp; omega
   have l2:(Y.take (Y.length-X.length)).length=Y.length-X.length:=by simp
   have ey:Y=Y.take (Y.length-X.length)++Y.drop (Y.length-X.length):=(dK _ _).symm;generalize Y.take (Y.length-X.length)=Y1 at l2 ey;generalize Y.drop (Y.length-X.length)=Y2 at l1 ey;subst ey;refine .inr ⟨((Y2.length:Int),(Y1.length:Int),A++(L++(Y2++(Y1++((X++R)++C))))),⟨L,Y2,Y1,X++R,by omega,by simp at l2 hxy hgt; omega,by omega,by simp at h2 ⊢; omega,?_,rfl⟩,by simp at l2 ⊢; omega,fun kn=>?_⟩
   ·rw[←h3]; simp
   ·dsimp only;unfold Ĭ;have hg1:ine (X.length:Int) ((Y1++Y2).length:Int)=true:=bne_iff_ne.2 (by omega);rw[Ù hg1,Î (decide_eq_false (by omega)),rot_L2,Ô (by omega) (by omega),Ô (by simp at h2 ⊢; omega) (by simp at h2 ⊢; omega),Ô (by simp at h2 ⊢; omega) (by simp at h2 ⊢; omega)];have:=uz (A:=A++L) (U:=X) (B:=Y1) (V:=Y2) (C:=R++C) l1 (a:=((A.length+U.length:Nat):Int)-X.length) (b:=((A.length+U.length:Nat):Int)+((Y1++Y2).length:Int)-X.length) (n:=X.length) (by simp; omega) (by simp; omega) rfl (by simp at h2 ⊢; omega) (fun z31=>ck (((Y1++Y2).length:Int)-(X.length:Int)) fun n32=>kn ((X.length:Int),(n32,z31)))
    have e1:(A++L)++(X++(Y1++(Y2++(R++C))))=A++(L++(X++(Y1++Y2++(R++C)))):=by simp
    rw[e1] at this;refine this.trans ?_;rw[Ô (by simp; omega) (by simp; omega)];congr 1;rw[Prod.mk.injEq,Prod.mk.injEq];exact⟨by omega,by simp; omega,by simp⟩
end
def ahT {n:Nat} (h:n≤10000000):IntKind.wrap .i64 (ii .u64 (IntKind.wrap .u64 (n:Int)) (1:Int))=((n / 2:Nat):Int):=by
 have e1:IntKind.wrap .u64 (n:Int)=n:=by
  simp[IntKind.wrap,IntKind.bits,IntKind.signed];omega
 rw[e1]
 have e2:ii .u64 (n:Int) 1=((n / 2:Nat):Int):=by
  unfold ii
  have:(2:Int) ^ (min (Int.toNat 1) IntKind.u64.bits)=2:=by decide
  rw[this,Int.fdiv_eq_ediv_of_nonneg _ (by omega)];omega
 rw[e2];simp[IntKind.wrap,IntKind.bits,IntKind.signed];omega
section
variable {ρ:Type} {m:Ĺ}
abbrev aeT:=List Way→Int→Int→Int→Ĺ→Option (List Way×Ĺ)
def Z6 (p:Nat→Prop) [DecidablePred p] {lo:Nat}:∀(n:Nat),(∀c c',lo≤c→c≤c'→c'<lo+n→p c'→p c)→∃s,lo≤s∧s≤lo+n∧(∀c,lo≤c→c<s→p c)∧∀c,s≤c→c<lo+n→¬p c
 |0,_=>⟨lo,cz _,cz _,fun c h1 h2=>by omega,fun c h1 h2=>by omega⟩
 |n+1,hm=>by
  obtain⟨s,h1,h2,h3,h4⟩:=Z6 p (lo:=lo) n fun c c' a1 a2 a3=>hm c c' a1 a2 (by omega)
  by_cases hp:p (lo+n)
  ·exact⟨lo+n+1,by omega,by omega,fun c q1 q2=>hm c (lo+n) q1 (by omega) (by omega) hp,fun c q1 q2=>by omega⟩
  ·refine⟨s,h1,by omega,h3,fun c q1 q2=>?_⟩
   by_cases e:c=lo+n
   ·rw[e]; exact hp
   ·exact h4 c q1 (by omega)
def Ym {f:Int×Int→(Int×Int→Option ρ)→Option ρ} {K:Int→Option ρ} {lo hi:Nat} (hlh:lo≤hi) (p:Nat→Prop) [DecidablePred p] (mono:∀c c',lo≤c→c≤c'→c'<hi→p c'→p c)
 (step:∀i j:Nat,lo≤i→i<j→j≤hi→∀kn,f ((i:Int),(j:Int)) kn=if p ((i+j) / 2) then kn ((((i+j) / 2+1:Nat):Int),(j:Int)) else kn ((i:Int),(((i+j) / 2:Nat):Int)))
 (stop:∀i:Nat,lo≤i→i≤hi→∀kn,f ((i:Int),(i:Int)) kn=K i) :
 ∃s,lo≤s∧s≤hi∧(∀c,lo≤c→c<s→p c)∧(∀c,s≤c→c<hi→¬p c)∧Ë f ((lo:Int),(hi:Int))=K (s:Nat):=by
 obtain⟨s,h1,h2,h3,h4⟩:=Z6 p (lo:=lo) (hi-lo) fun c c' a1 a2 a3=>mono c c' a1 a2 (by omega);refine⟨s,h1,by omega,h3,fun c q1 q2=>h4 c q1 (by omega),?_⟩;refine Ě (fun v:Int×Int=>∃i j:Nat,lo≤i∧i≤s∧s≤j∧j≤hi∧v=((i:Int),(j:Int))) (fun v=>v.2.toNat-v.1.toNat) ?_ ⟨lo,hi,cz _,h1,by omega,cz _,rfl⟩;rintro v ⟨i,j,q1,q2,q3,q4,rfl⟩;rcases cV i j with h|h
 ·by_cases hp:p ((i+j) / 2)
  ·refine .inr ⟨_,⟨(i+j) / 2+1,j,by omega,?_,q3,q4,rfl⟩,by dsimp only; omega,fun kn=>by rw[step i j q1 h q4,if_pos hp]⟩;rcases Nat.lt_or_ge ((i+j) / 2) s with h5|h5
   ·omega
   ·exact absurd hp (h4 _ h5 (by omega))
  ·refine .inr ⟨_,⟨i,(i+j) / 2,q1,q2,?_,by omega,rfl⟩,by dsimp only; omega,fun kn=>by rw[step i j q1 h q4,if_neg hp]⟩;rcases Nat.lt_or_ge ((i+j) / 2) s with h5|h5
   ·exact absurd (h3 _ (by omega) h5) hp
   ·exact h5
 ·obtain rfl:i=j:=by omega
  obtain rfl:i=s:=by omega
  exact .inl fun kn=>stop i q1 q4 kn
def aaO (rec:aeT) {P B C:List Way} {x:Way} {c0:Int} (hc:c0=((P.length+B.length+1:Nat):Int)) (hl:P.length+B.length≤1000000) (K:List Way→Option ρ) :
 Ë (fun(v:Int×List Way) kk=>ë rec c0 v.1 v.2 (fun a b=>kk (a,b)) K) ((P.length:Int),P++(x::(B++C)))=K (P++(B++x::C)):=by
 subst hc;refine Ě (fun v:Int×List Way=>∃B1 B2:List Way,B=B1++B2∧v=(((P.length+B1.length:Nat):Int),P++(B1++x::(B2++C)))) (fun v=>(P.length+B.length+1)-v.1.toNat) ?_ ⟨[],B,rfl,rfl⟩;rintro v ⟨B1,B2,hB,rfl⟩
 cases B2 with
 |nil =>
  refine .inl fun kn=>?_;rw[List.append_nil] at hB;subst hB;dsimp only;unfold ë;rw[Ô (by omega) (by omega),Î (decide_eq_false (by omega))];rfl
 |cons y B2 =>
  have hlen:B.length=B1.length+B2.length+1:=by rw[hB]; simp; omega
  refine .inr ⟨(((P.length+(B1++[y]).length:Nat):Int),P++((B1++[y])++x::(B2++C))),⟨B1++[y],B2,by rw[hB]; simp,rfl⟩,by simp; omega,fun kn=>?_⟩;dsimp only;unfold ë
  have s1:P++(B1++x::(y::B2++C))=(P++B1)++x::(y::(B2++C)):=by simp
  have p1:((P.length+B1.length:Nat):Int)=(P++B1).length:=by simp
  have s2:P++(B1++x::(y::B2++C))=(P++B1++[x])++y::(B2++C):=by simp
  have p2:((P.length+B1.length:Nat):Int)+1=(P++B1++[x]).length:=by simp; omega
  have s3:(P++B1)++y::(y::(B2++C))=(P++B1++[y])++y::(B2++C):=by simp
  have p3:((P.length+B1.length:Nat):Int)+1=(P++B1++[y]).length:=by simp; omega
  rw[Ô (by omega) (by omega),Ù (decide_eq_true (by omega)),Ô (by omega) (by omega),Ô (by omega) (by omega),iH s2 p2,iH s1 p1,iH s1 p1,GP s1 p1,iH s3 p3,GP s3 p3,Ô (by omega) (by omega)];congr 1
  ·simp; omega
  ·simp
def acY (rec:aeT) {P B C:List Way} {x:Way} {c0:Int} (hc:c0=(P.length:Int)) (hl:P.length+B.length≤1000000) (K:List Way→Option ρ) :
 Ë (fun(v:Int×List Way) kk=>ê rec c0 v.1 v.2 (fun a b=>kk (a,b)) K) (((P.length+B.length:Nat):Int),P++(B++x::C))=K (P++(x::(B++C))):=by
 subst hc;refine Ě (fun v:Int×List Way=>∃B1 B2:List Way,B=B1++B2∧v=(((P.length+B1.length:Nat):Int),P++(B1++x::(B2++C)))) (fun v=>v.1.toNat) ?_ ⟨B,[],by simp,by simp⟩;rintro v ⟨B1,B2,hB,rfl⟩
 cases hB1:B1.reverse with
 |nil =>
  have:B1=[]:=by simpa using hB1
  subst this;refine .inl fun kn=>?_;dsimp only;unfold ê;rw[Î (decide_eq_false (by simp)),hB];simp
 |cons y B3 =>
  have hA0:B1=B3.reverse++[y]:=by
   have:=congrArg List.reverse hB1;simpa using this
  generalize B3.reverse=A1 at hA0;subst hA0
  have hlen:B.length=A1.length+1+B2.length:=by rw[hB]; simp; omega
  refine .inr ⟨(((P.length+A1.length:Nat):Int),P++(A1++x::(y::B2++C))),⟨A1,y::B2,by rw[hB]; simp,rfl⟩,by simp; omega,fun kn=>?_⟩;dsimp only;unfold ê
  have e0:((P.length+(A1++[y]).length:Nat):Int)-1=((P.length+A1.length:Nat):Int):=by simp; omega
  have s1:P++(A1++[y]++x::(B2++C))=(P++A1)++y::(x::(B2++C)):=by simp
  have p1:((P.length+A1.length:Nat):Int)=(P++A1).length:=by simp
  have s2:P++(A1++[y]++x::(B2++C))=(P++A1++[y])++x::(B2++C):=by simp
  have p2:((P.length+(A1++[y]).length:Nat):Int)=(P++A1++[y]).length:=by simp
  have s3:(P++A1++[y])++y::(B2++C)=(P++A1)++y::(y::(B2++C)):=by simp
  rw[Ù (decide_eq_true (by simp; omega)),e0,Ô (by omega) (by omega),Ô (by omega) (by omega),iH s1 p1,iH s2 p2,iH s2 p2,GP s2 p2,iH s3 p1,GP s3 p1,Ô (by omega) (by omega)];congr 1;simp
end
section
variable {ρ:Type} {m:Ĺ}
def symS (rec:aeT) (mid e b:Int) (k:List Way×Ĺ→Option ρ) (l:List Way) (mm:Ĺ):Option ρ :=
 ifb (ilt mid e) (ifb (ilt e b) (Ä (rec l mid e b mm) fun r=>k (r.1,r.2)) (k (l,mm))) (k (l,mm))
def symR (rec:aeT) (a z mid e b:Int) (k:List Way×Ĺ→Option ρ) (l:List Way) (mm:Ĺ):Option ρ :=
 ifb (ilt a z) (ifb (ilt z mid) (Ä (rec l a z mid mm) fun r=>symS rec mid e b k r.1 r.2) (symS rec mid e b k l mm)) (symS rec mid e b k l mm)
def ahq (rec:aeT) (l:List Way) (a c b mid n:Int) (mm:Ĺ) (k:List Way×Ĺ→Option ρ) (z:Int):Option ρ :=
 ck (n-z) fun e=>ifb (ilt z c) (ifb (ilt c e) (Ä (į l z c e mm) fun r=>symR rec a z mid e b k r.1 r.2) (symR rec a z mid e b k l mm)) (symR rec a z mid e b k l mm)
def aba (n:Int):Int:=IntKind.wrap .i64 (ii .u64 (IntKind.wrap .u64 n) (1:Int))
def sym_eq (rec:aeT) (l:List Way) (a c b:Int) (mm:Ĺ) (k:List Way×Ĺ→Option ρ):ġ rec l a c b mm k =
 ck (c-a) fun n1=>ifb (ieq n1 (1:Int)) (Ë (fun(v:Int×Int) kk=>ô rec a l mm.1.1.1 mm.1.1.2 mm.1.2.1 mm.1.2.2.1 mm.1.2.2.2.1 mm.1.2.2.2.2.1 mm.1.2.2.2.2.2 mm.2 v.1 v.2 (fun x y=>kk (x,y)) (fun z7=>Ë (fun(v:Int×List Way) kk=>ë rec z7 v.1 v.2 (fun x y=>kk (x,y)) (fun z16=>k (z16,mm))) (a,l))) (c,b))
  (ck (b-c) fun n25=>ifb (ieq n25 (1:Int)) (Ë (fun(v:Int×Int) kk=>ó rec c l mm.1.1.1 mm.1.1.2 mm.1.2.1 mm.1.2.2.1 mm.1.2.2.2.1 mm.1.2.2.2.2.1 mm.1.2.2.2.2.2 mm.2 v.1 v.2 (fun x y=>kk (x,y)) (fun z31=>Ë (fun(v:Int×List Way) kk=>ê rec z31 v.1 v.2 (fun x y=>kk (x,y)) (fun z39=>k (z39,mm))) (c,l))) (a,c))
   (ck (a+b) fun n48=>ck (aba n48+c) fun n49=>ifb (igt c (aba n48))
    (ck (n49-b) fun n50=>ck (n49-(1:Int)) fun n51=>Ë (fun(v:Int×Int) kk=>Ü rec n51 l mm.1.1.1 mm.1.1.2 mm.1.2.1 mm.1.2.2.1 mm.1.2.2.2.1 mm.1.2.2.2.2.1 mm.1.2.2.2.2.2 mm.2 v.1 v.2 (fun x y=>kk (x,y)) (ahq rec l a c b (aba n48) n49 mm k)) (n50,aba n48))
    (ck (n49-(1:Int)) fun n77=>Ë (fun(v:Int×Int) kk=>Ü rec n77 l mm.1.1.1 mm.1.1.2 mm.1.2.1 mm.1.2.2.1 mm.1.2.2.2.1 mm.1.2.2.2.2.1 mm.1.2.2.2.2.2 mm.2 v.1 v.2 (fun x y=>kk (x,y)) (ahq rec l a c b (aba n48) n49 mm k)) (a,c)))):=rfl
def RecOk (rec:aeT) (m:Ĺ) (N:Nat):Prop:=∀P U V Q:List Way,1≤U.length→1≤V.length→U.length+V.length≤N→Srt (Ē m) U→Srt (Ē m) V→WOk m (U++V)→P.length+U.length+V.length≤1000000 →
 rec (P++(U++(V++Q))) P.length ((P.length+U.length:Nat):Int) ((P.length+U.length+V.length:Nat):Int) m=some (P++(ĸ (Ē m) (U++V)++Q),m)
def rG {l:List Way} (h:Srt (Ē m) l):ĸ (Ē m) l=l:=vE h (Stb.refl l)
def pU (l:List Way):(ĸ (Ē m) l).length=l.length:=(Ŋ l).length
def afd {rec:aeT} {N:Nat} (hrec:RecOk rec m N) {P u1 u2 v1 v2 Q:List Way} (s1:u1.length+v1.length≤N) (s2:u2.length+v2.length≤N) (hU:Srt (Ē m) (u1++u2)) (hV:Srt (Ē m) (v1++v2))
 (F1:∀x∈u2,∀y∈v1,Ē m y<Ē m x) (F2:∀x∈u1,∀y∈v2,Ē m x≤Ē m y) (hW:WOk m ((u1++u2)++(v1++v2))) (hl:P.length+u1.length+u2.length+v1.length+v2.length≤1000000)
 {a c b mid n z:Int} (ea:a=P.length) (ec:c=((P.length+u1.length+u2.length:Nat):Int)) (eb:b=((P.length+u1.length+u2.length+v1.length+v2.length:Nat):Int)) (emid:mid=((P.length+u1.length+v1.length:Nat):Int)) (ez:z=((P.length+u1.length:Nat):Int)) (en:n-z=((P.length+u1.length+u2.length+v1.length:Nat):Int)) :
 ahq rec (P++((u1++u2)++((v1++v2)++Q))) a c b mid n m some z=some (P++(ĸ (Ē m) ((u1++u2)++(v1++v2))++Q),m):=by
 obtain⟨hU1,hU2,hU3⟩:=hU.parts;obtain⟨hV1,hV2,hV3⟩:=hV.parts;subst ea ec eb emid ez
 have fin:ĸ (Ē m) ((u1++u2)++(v1++v2))=ĸ (Ē m) (u1++v1)++ĸ (Ē m) (u2++v2):=by
  refine vE ?_ ?_
  ·refine(jH _).append (jH _) fun x hx y hy=>?_;have hx:=(Ŋ _).mem.1 hx;have hy:=(Ŋ _).mem.1 hy
   rcases cE.1 hx with hx|hx<;>rcases cE.1 hy with hy|hy
   ·exact hU3 x hx y hy
   ·exact F2 x hx y hy
   ·have:=F1 y hy x hx; omega
   ·exact hV3 x hx y hy
  ·have q:Stb (Ē m) (u2++v1) (v1++u2):=Stb.swap fun x hx y hy=>by have:=F1 x hx y hy; omega
   have q2:=((Stb.refl (key:=Ē m) u1).append (q.append (Stb.refl v2)))
   have e1:u1++(u2++v1++v2)=u1++u2++(v1++v2):=by simp
   have e2:u1++(v1++u2++v2)=(u1++v1)++(u2++v2):=by simp
   rw[e1,e2] at q2;exact q2.trans ((Ŋ _).append (Ŋ _))
 have lI:(ĸ (Ē m) (u1++v1)).length=u1.length+v1.length:=by rw[pU]; simp
 have hS:symS rec ((P.length+u1.length+v1.length:Nat):Int) ((P.length+u1.length+u2.length+v1.length:Nat):Int) ((P.length+u1.length+u2.length+v1.length+v2.length:Nat):Int) some (P++(ĸ (Ē m) (u1++v1)++(u2++(v2++Q)))) m=some (P++(ĸ (Ē m) ((u1++u2)++(v1++v2))++Q),m):=by
  rw[fin];unfold symS
  by_cases h1:u2=[]
  ·subst h1;rw[Î (decide_eq_false (by simp))];simp only[dL,cJ];rw[rG hV2]
  by_cases h2:v2=[]
  ·subst h2;have q:ilt ((P.length+u1.length+u2.length+v1.length:Nat):Int) ((P.length+u1.length+u2.length+v1.length+([]:List Way).length:Nat):Int)=false:=decide_eq_false (by simp);rw[q,é];simp only[dL,cW,cJ];rw[rG hU2]
   cases ilt ((P.length+u1.length+v1.length:Nat):Int) ((P.length+u1.length+u2.length+v1.length:Nat):Int)<;>rfl
  have k1:1≤u2.length:=dQ.2 h1;have k2:1≤v2.length:=dQ.2 h2
  have:=hrec (P++ĸ (Ē m) (u1++v1)) u2 v2 Q k1 k2 s2 hU2 hV2 (hW.sub fun x hx=>by
   rcases cE.1 hx with hx|hx<;>simp[hx]) (by rw[cD,lI]; omega)
  rw[Ù (decide_eq_true (by omega)),Ù (decide_eq_true (by omega))]
  have e1:P++(ĸ (Ē m) (u1++v1)++(u2++(v2++Q)))=(P++ĸ (Ē m) (u1++v1))++(u2++(v2++Q)):=by simp
  rw[e1,show((P.length+u1.length+v1.length:Nat):Int)=((P++ĸ (Ē m) (u1++v1)).length:Int) by rw[cD,lI]; omega,
   show((P.length+u1.length+u2.length+v1.length:Nat):Int)=(((P++ĸ (Ē m) (u1++v1)).length+u2.length:Nat):Int) by rw[cD,lI]; omega,
   show((P.length+u1.length+u2.length+v1.length+v2.length:Nat):Int)=(((P++ĸ (Ē m) (u1++v1)).length+u2.length+v2.length:Nat):Int) by rw[cD,lI]; omega,this,À]
  simp
 have hR:symR rec (P.length:Int) ((P.length+u1.length:Nat):Int) ((P.length+u1.length+v1.length:Nat):Int) ((P.length+u1.length+u2.length+v1.length:Nat):Int) ((P.length+u1.length+u2.length+v1.length+v2.length:Nat):Int) some (P++(u1++(v1++(u2++(v2++Q))))) m=some (P++(ĸ (Ē m) ((u1++u2)++(v1++v2))++Q),m):=by
  unfold symR
  by_cases h1:u1=[]
  ·have q:ilt (P.length:Int) ((P.length+u1.length:Nat):Int)=false:=decide_eq_false (by rw[h1]; simp)
   have e:P++(ĸ (Ē m) (u1++v1)++(u2++(v2++Q)))=P++(u1++(v1++(u2++(v2++Q)))):=by
    subst h1;simp only[dL];rw[rG hV1]
   rw[e] at hS;rw[q,é,hS]
  by_cases h2:v1=[]
  ·have e:P++(ĸ (Ē m) (u1++v1)++(u2++(v2++Q)))=P++(u1++(v1++(u2++(v2++Q)))):=by
    subst h2;simp only[cW,dL];rw[rG hU1]
   rw[e] at hS;have q:ilt ((P.length+u1.length:Nat):Int) ((P.length+u1.length+v1.length:Nat):Int)=false:=decide_eq_false (by rw[h2]; simp);rw[q,é,hS]
   cases ilt (P.length:Int) ((P.length+u1.length:Nat):Int)<;>rfl
  have k1:1≤u1.length:=dQ.2 h1;have k2:1≤v1.length:=dQ.2 h2;rw[Ù (decide_eq_true (by omega)),Ù (decide_eq_true (by omega))]
  rw[hrec P u1 v1 (u2++(v2++Q)) k1 k2 s1 hU1 hV1 (hW.sub fun x hx=>by
   rcases cE.1 hx with hx|hx<;>simp[hx]) (by omega),À]
  exact hS
 unfold ahq;rw[en,Ô (by omega) (by omega)]
 by_cases h1:u2=[]
 ·have q:ilt ((P.length+u1.length:Nat):Int) ((P.length+u1.length+u2.length:Nat):Int)=false:=decide_eq_false (by rw[h1]; simp)
  have e:P++((u1++u2)++((v1++v2)++Q))=P++(u1++(v1++(u2++(v2++Q)))):=by rw[h1]; simp
  rw[q,é,e,hR]
 by_cases h2:v1=[]
 ·have e:P++((u1++u2)++((v1++v2)++Q))=P++(u1++(v1++(u2++(v2++Q)))):=by rw[h2]; simp
  have q:ilt ((P.length+u1.length+u2.length:Nat):Int) ((P.length+u1.length+u2.length+v1.length:Nat):Int)=false:=decide_eq_false (by rw[h2]; simp);rw[q,é,e,hR]
  cases ilt ((P.length+u1.length:Nat):Int) ((P.length+u1.length+u2.length:Nat):Int)<;>rfl
 have k1:1≤u2.length:=dQ.2 h1;have k2:1≤v1.length:=dQ.2 h2;rw[Ù (decide_eq_true (by omega)),Ù (decide_eq_true (by omega))];have:=acs (m:=m) (A:=P++u1) (U:=u2) (V:=v1) (C:=v2++Q) k1 k2 (by simp; omega);rw[cD] at this
 have e1:P++((u1++u2)++((v1++v2)++Q))=(P++u1)++(u2++(v1++(v2++Q))):=by simp
 rw[e1,this,À]
 have e2:(P++u1)++(v1++(u2++(v2++Q)))=P++(u1++(v1++(u2++(v2++Q)))):=by simp
 rw[e2];exact hR
end
section
variable {ρ:Type} {m:Ĺ}
def giW (l:List Way) (i:Nat):Way:=(l[i]?).getD []
def Fk {l:List Way} {i:Nat} (h:i<l.length) (K:Way→Option ρ):(ç ((ile (0:Int) (i:Int))&&(ilt (i:Int) (ñ l))) (ł l (Int.toNat (i:Int)) K))=K (giW l i):=by
 rw[Ć (by simp[ile,ilt,ñ]; omega),cP,jd (cw h)];simp[giW,cw h]
def IP {i j:Nat} (h:i+j≤10000000):IntKind.wrap .i64 (ii .u64 (IntKind.wrap .u64 ((i:Int)+(j:Int))) (1:Int))=(((i+j) / 2:Nat):Int):=by
 rw[←ahT h]; push_cast; rfl
def KOk (m:Ĺ) (x:Way):Prop:=ĭ m x=some (Ē m x)
def TQ {x y:Way} (hx:KOk m x) (hy:KOk m y) (X Y:Option ρ):(Ä (ji x y m) fun r=>ifb (!(ilt r (0:Int))) X Y)=if Ē m x≥Ē m y then X else Y:=by
 rw[SO hx hy,À]
 by_cases h:Ē m x<Ē m y
 ·rw[if_pos h,if_neg (show ¬Ē m x≥Ē m y by omega)]; rfl
 ·rw[if_neg h,if_pos (show Ē m x≥Ē m y by omega)]
  by_cases h2:Ē m y<Ē m x
  ·rw[if_pos h2]; rfl
  ·rw[if_neg h2]; rfl
def ahz (rec:aeT) {l:List Way} {a i j:Nat} (hij:i<j) (hj:j≤l.length) (ha:a<l.length) (hl:j≤2000000) (wa:KOk m (giW l a)) (wh:KOk m (giW l ((i+j) / 2))) (kn:Int→Int→Option ρ) (k0:Int→Option ρ) :
 ô rec (a:Int) l m.1.1.1 m.1.1.2 m.1.2.1 m.1.2.2.1 m.1.2.2.2.1 m.1.2.2.2.2.1 m.1.2.2.2.2.2 m.2 (i:Int) (j:Int) kn k0=if Ē m (giW l ((i+j) / 2))<Ē m (giW l a) then kn (((i+j) / 2+1:Nat):Int) j else kn i (((i+j) / 2:Nat):Int):=by
 unfold ô;rw[Ù (decide_eq_true (by omega)),Ô (by omega) (by omega),IP (by omega),Fk (by omega),Fk ha];refine(Zu wh wa _ _).trans ?_;rw[Ô (by omega) (by omega)];rfl
def ahy (rec:aeT) {l:List Way} {c i j:Nat} (hij:i<j) (hj:j≤l.length) (hc:c<l.length) (hl:j≤2000000) (wc:KOk m (giW l c)) (wh:KOk m (giW l ((i+j) / 2))) (kn:Int→Int→Option ρ) (k0:Int→Option ρ) :
 ó rec (c:Int) l m.1.1.1 m.1.1.2 m.1.2.1 m.1.2.2.1 m.1.2.2.2.1 m.1.2.2.2.2.1 m.1.2.2.2.2.2 m.2 (i:Int) (j:Int) kn k0=if Ē m (giW l c)≥Ē m (giW l ((i+j) / 2)) then kn (((i+j) / 2+1:Nat):Int) j else kn i (((i+j) / 2:Nat):Int):=by
 unfold ó;rw[Ù (decide_eq_true (by omega)),Ô (by omega) (by omega),IP (by omega),Fk hc,Fk (by omega)];refine(TQ wc wh _ _).trans ?_;rw[Ô (by omega) (by omega)];rfl
def ahx (rec:aeT) {l:List Way} {p i j:Nat} (hij:i<j) (hj:j≤l.length) (hp:(i+j) / 2≤p) (hp2:p-(i+j) / 2<l.length) (hl:j≤2000000) (hpb:p≤4000000) (wc:KOk m (giW l (p-(i+j) / 2))) (wh:KOk m (giW l ((i+j) / 2))) (kn:Int→Int→Option ρ) (k0:Int→Option ρ) :
 Ü rec (p:Int) l m.1.1.1 m.1.1.2 m.1.2.1 m.1.2.2.1 m.1.2.2.2.1 m.1.2.2.2.2.1 m.1.2.2.2.2.2 m.2 (i:Int) (j:Int) kn k0=if Ē m (giW l (p-(i+j) / 2))≥Ē m (giW l ((i+j) / 2)) then kn (((i+j) / 2+1:Nat):Int) j else kn i (((i+j) / 2:Nat):Int):=by
 unfold Ü;rw[Ù (decide_eq_true (by omega)),Ô (by omega) (by omega),IP (by omega),show(p:Int)-(((i+j) / 2:Nat):Int)=((p-(i+j) / 2:Nat):Int) by omega,Ô (by omega) (by omega),Fk hp2,Fk (by omega)];refine(TQ wc wh _ _).trans ?_;rw[Ô (by omega) (by omega)];rfl
def qy {α:Type} {l:List α} {n:Nat} {y:α} (h:y∈l.take n):∃j,j<n∧j<l.length∧l[j]?=some y:=by
 obtain⟨j,hj,e⟩:=cM.1 h;simp only[cT] at hj;refine⟨j,by omega,by omega,?_⟩;rw[eQ] at e;rw[cw (by omega),e]
def qz {α:Type} {l:List α} {n:Nat} {y:α} (h:y∈l.drop n):∃j,n≤j∧j<l.length∧l[j]?=some y:=by
 obtain⟨j,hj,e⟩:=cM.1 h;simp only[gj] at hj;refine⟨n+j,by omega,by omega,?_⟩;rw[List.getElem_drop] at e;rw[cw (by omega),e]
def acg {l:List Way} (h:Srt (Ē m) l) {i j:Nat} {x y:Way} (hi:l[i]?=some x) (hj:l[j]?=some y) (hij:i≤j):Ē m x≤Ē m y:=by
 obtain⟨h1,rfl⟩:=cB.1 hi;obtain⟨h2,rfl⟩:=cB.1 hj;rcases fZ hij with hlt|rfl
 ·exact df.1 h i j h1 h2 hlt
 ·exact dC _
def GK:∀(f N:Nat),N≤2 ^ f→RecOk (ğ (f+1)) m N
 |0,N,hN=>fun P U V Q hU hV hn=>by simp at hN; omega
 |f+1,N,hN=>fun P U V Q hU hV hn sU sV hW hl=>by
  have hrec:=GK f (2 ^ f) (cz _)
  have hpow:2 ^ (f+1)=2*2 ^ f:=by rw[Nat.pow_succ]; omega
  show ġ (ğ (f+1)) _ _ _ _ m some=_;generalize ğ (f+1)=rec at hrec;obtain⟨l,hle⟩:∃l,l=P++(U++(V++Q)):=⟨_,rfl⟩
  have hll:P.length+U.length+V.length≤l.length:=by rw[hle]; simp; omega
  rw[sym_eq]
  -- what lies where
  have gU:∀i x,U[i]?=some x→giW l (P.length+i)=x:=fun i x hx=>by
   have hi:=(List.getElem?_eq_some_iff.1 hx).1;unfold giW;rw[hle,List.getElem?_append_right (by omega),List.getElem?_append_left (by omega),show P.length+i-P.length=i by omega,hx];rfl
  have gV:∀i x,V[i]?=some x→giW l (P.length+U.length+i)=x:=fun i x hx=>by
   have hi:=(List.getElem?_eq_some_iff.1 hx).1;unfold giW;rw[hle,List.getElem?_append_right (by omega),List.getElem?_append_right (by omega),List.getElem?_append_left (by omega),show P.length+U.length+i-P.length-U.length=i by omega,hx];rfl
  have kU:∀c c',P.length≤c→c≤c'→c'<P.length+U.length→Ē m (giW l c)≤Ē m (giW l c'):=fun c c' h1 h2 h3=>by
   have q1:U[c-P.length]?=some U[c-P.length]:=cw (by omega);have q2:U[c'-P.length]?=some U[c'-P.length]:=cw (by omega);have e1:=gU _ _ q1;have e2:=gU _ _ q2;rw[show P.length+(c-P.length)=c by omega] at e1;rw[show P.length+(c'-P.length)=c' by omega] at e2;rw[e1,e2];exact acg sU q1 q2 (by omega)
  have kV:∀c c',P.length+U.length≤c→c≤c'→c'<P.length+U.length+V.length→Ē m (giW l c)≤Ē m (giW l c'):=fun c c' h1 h2 h3=>by
   have q1:V[c-(P.length+U.length)]?=some V[c-(P.length+U.length)]:=cw (by omega);have q2:V[c'-(P.length+U.length)]?=some V[c'-(P.length+U.length)]:=cw (by omega);have e1:=gV _ _ q1;have e2:=gV _ _ q2;rw[show P.length+U.length+(c-(P.length+U.length))=c by omega] at e1;rw[show P.length+U.length+(c'-(P.length+U.length))=c' by omega] at e2;rw[e1,e2];exact acg sV q1 q2 (by omega)
  have kW:∀c,P.length≤c→c<P.length+U.length+V.length→KOk m (giW l c):=fun c h1 h2=>by
   rcases cV c (P.length+U.length) with h3|h3
   ·have q1:U[c-P.length]?=some U[c-P.length]:=cw (by omega);have e1:=gU _ _ q1;rw[show P.length+(c-P.length)=c by omega] at e1;rw[e1];exact hW _ (dt _ (fc _))
   ·have q1:V[c-(P.length+U.length)]?=some V[c-(P.length+U.length)]:=cw (by omega);have e1:=gV _ _ q1;rw[show P.length+U.length+(c-(P.length+U.length))=c by omega] at e1;rw[e1];exact hW _ (dm _ (fc _))
  have e0:((P.length+U.length:Nat):Int)-(P.length:Int)=U.length:=by omega
  have e1:((P.length+U.length+V.length:Nat):Int)-((P.length+U.length:Nat):Int)=V.length:=by omega
  rw[e0,e1,Ô (by omega) (by omega),Ô (by omega) (by omega),←hle];have half:aba ((P.length:Int)+((P.length+U.length+V.length:Nat):Int))=(((P.length+(P.length+U.length+V.length)) / 2:Nat):Int):=IP (by omega)
  by_cases hU1:U.length=1
  ·rw[Ù (beq_iff_eq.2 (by rw[hU1]; rfl))]
   obtain⟨x,hx⟩:∃x,U=[x]:=by
    cases U with
    |nil=>simp at hU1
    |cons x t=>cases t with
     |nil=>exact⟨x,rfl⟩
     |cons y t=>simp at hU1
   have gx:giW l P.length=x:=by
    have:=gU 0 x (by rw[hx]; rfl);exact this
   obtain⟨s,s1,s2,s3,s4,s5⟩:=Ym (f:=fun(v:Int×Int) kk=>ô rec (P.length:Int) l m.1.1.1 m.1.1.2 m.1.2.1 m.1.2.2.1 m.1.2.2.2.1 m.1.2.2.2.2.1 m.1.2.2.2.2.2 m.2 v.1 v.2 (fun x y=>kk (x,y)) (fun z7=>Ë (fun(v:Int×List Way) kk=>ë rec z7 v.1 v.2 (fun x y=>kk (x,y)) (fun z16=>some (z16,m))) ((P.length:Int),l)))
    (K:=fun z7=>Ë (fun(v:Int×List Way) kk=>ë rec z7 v.1 v.2 (fun x y=>kk (x,y)) (fun z16=>some (z16,m))) ((P.length:Int),l)) (lo:=P.length+U.length) (hi:=P.length+U.length+V.length) (by omega)
    (fun h=>Ē m (giW l h)<Ē m (giW l P.length)) (fun c c' q1 q2 q3 q4=>by have:=kV c c' q1 q2 q3; omega)
    (fun i j q1 q2 q3 kn=>ahz rec q2 (by omega) (by omega) (by omega) (kW _ (cz _) (by omega)) (kW _ (by omega) (by omega)) _ _)
    (fun i q1 q2 kn=>by
     dsimp only;unfold ô
     rw[Î (decide_eq_false (by omega))])
   refine s5.trans ?_
   have hk:s-(P.length+U.length)≤V.length:=by omega
   obtain⟨k,hkk⟩:∃k,k=s-(P.length+U.length):=⟨_,rfl⟩;rw[←hkk] at hk
   have lt:(V.take k).length=k:=by simp; omega
   have hB:∀y∈V.take k,Ē m y<Ē m x:=fun y hy=>by
    obtain⟨j,j1,j2,j3⟩:=qy hy;have:=s3 (P.length+U.length+j) (by omega) (by omega);rw[gV j y j3,gx] at this;exact this
   have hD:∀y∈V.drop k,Ē m x≤Ē m y:=fun y hy=>by
    obtain⟨j,j1,j2,j3⟩:=qz hy;have:=s4 (P.length+U.length+j) (by omega) (by omega);rw[gV j y j3,gx] at this;omega
   have hv:V=V.take k++V.drop k:=(dK _ _).symm
   have fin:ĸ (Ē m) (U++V)=V.take k++x::V.drop k:=by
    rw[hv] at sV;obtain⟨v1,v2,v3⟩:=sV.parts;refine vE ?_ ?_
    ·refine v1.append (List.Pairwise.cons hD v2) fun y hy z hz=>?_;rcases cF.1 hz with rfl|hz
     ·have:=hB y hy; omega
     ·exact v3 y hy z hz
    ·have:=(Stb.swap (key:=Ē m) (u:=[x]) (v:=V.take k) (fun a ha b hb=>by simp at ha; subst ha; have:=hB b hb; omega)).append (Stb.refl (V.drop k));rw[hx]
     have e:[x]++V.take k++V.drop k=[x]++V:=by rw[cJ,←hv]
     rw[e] at this;simpa using this
   have hs:(s:Int)=((P.length+(V.take k).length+1:Nat):Int):=by rw[lt]; omega
   have:=aaO rec (P:=P) (B:=V.take k) (C:=V.drop k++Q) (x:=x) hs (by rw[lt]; omega) (fun z16=>some (z16,m))
   have e2:l=P++(x::(V.take k++(V.drop k++Q))):=by
    rw[hle,hx,←cJ (V.take k),←hv];rfl
   rw[←e2] at this;refine this.trans ?_;rw[fin];simp
  rw[Î (beq_eq_false_iff_ne.2 (fun h=>hU1 (by exact_mod_cast h)))]
  by_cases hV1:V.length=1
  ·rw[Ù (beq_iff_eq.2 (by rw[hV1]; rfl))]
   obtain⟨x,hx⟩:∃x,V=[x]:=by
    cases V with
    |nil=>simp at hV1
    |cons x t=>cases t with
     |nil=>exact⟨x,rfl⟩
     |cons y t=>simp at hV1
   have gx:giW l (P.length+U.length)=x:=by
    have:=gV 0 x (by rw[hx]; rfl);exact this
   obtain⟨s,s1,s2,s3,s4,s5⟩:=Ym (f:=fun(v:Int×Int) kk=>ó rec ((P.length+U.length:Nat):Int) l m.1.1.1 m.1.1.2 m.1.2.1 m.1.2.2.1 m.1.2.2.2.1 m.1.2.2.2.2.1 m.1.2.2.2.2.2 m.2 v.1 v.2 (fun x y=>kk (x,y)) (fun z7=>Ë (fun(v:Int×List Way) kk=>ê rec z7 v.1 v.2 (fun x y=>kk (x,y)) (fun z16=>some (z16,m))) (((P.length+U.length:Nat):Int),l)))
    (K:=fun z7=>Ë (fun(v:Int×List Way) kk=>ê rec z7 v.1 v.2 (fun x y=>kk (x,y)) (fun z16=>some (z16,m))) (((P.length+U.length:Nat):Int),l)) (lo:=P.length) (hi:=P.length+U.length) (by omega)
    (fun h=>Ē m (giW l (P.length+U.length))≥Ē m (giW l h)) (fun c c' q1 q2 q3 q4=>by have:=kU c c' q1 q2 q3; omega)
    (fun i j q1 q2 q3 kn=>ahy rec q2 (by omega) (by omega) (by omega) (kW _ (by omega) (by omega)) (kW _ (by omega) (by omega)) _ _)
    (fun i q1 q2 kn=>by
     dsimp only;unfold ó
     rw[Î (decide_eq_false (by omega))])
   refine s5.trans ?_;obtain⟨k,hkk⟩:∃k,k=s-P.length:=⟨_,rfl⟩
   have hk:k≤U.length:=by omega
   have lt:(U.take k).length=k:=by simp; omega
   have hB:∀y∈U.take k,Ē m y≤Ē m x:=fun y hy=>by
    obtain⟨j,j1,j2,j3⟩:=qy hy;have:=s3 (P.length+j) (by omega) (by omega);rw[gU j y j3,gx] at this;exact this
   have hD:∀y∈U.drop k,Ē m x<Ē m y:=fun y hy=>by
    obtain⟨j,j1,j2,j3⟩:=qz hy;have:=s4 (P.length+j) (by omega) (by omega);rw[gU j y j3,gx] at this;omega
   have hv:U=U.take k++U.drop k:=(dK _ _).symm
   have fin:ĸ (Ē m) (U++V)=U.take k++x::U.drop k:=by
    rw[hv] at sU;obtain⟨v1,v2,v3⟩:=sU.parts;refine vE ?_ ?_
    ·refine v1.append (List.Pairwise.cons (fun y hy=>by have:=hD y hy; omega) v2) fun y hy z hz=>?_;rcases cF.1 hz with rfl|hz
     ·exact hB y hy
     ·exact v3 y hy z hz
    ·have:=(Stb.refl (key:=Ē m) (U.take k)).append (Stb.swap (key:=Ē m) (u:=U.drop k) (v:=[x]) (fun a ha b hb=>by simp at hb; subst hb; have:=hD a ha; omega));rw[hx]
     have e:U.take k++(U.drop k++[x])=U++[x]:=by rw[←cJ,←hv]
     rw[e] at this;simpa using this
   have hs:(s:Int)=((P++U.take k).length:Int):=by rw[cD,lt]; omega
   have ld:(U.drop k).length=U.length-k:=by simp
   have:=acY rec (P:=P++U.take k) (B:=U.drop k) (C:=Q) (x:=x) hs (by rw[cD,lt,ld]; omega) (fun z16=>some (z16,m))
   have e2:l=(P++U.take k)++(U.drop k++x::Q):=by
    rw[hle,hx,cJ,←cJ (U.take k),←hv];rfl
   rw[←e2,show(((P++U.take k).length+(U.drop k).length:Nat):Int)=((P.length+U.length:Nat):Int) by rw[cD,lt,ld]; omega] at this;refine this.trans ?_;rw[fin];simp
  rw[Î (beq_eq_false_iff_ne.2 (fun h=>hV1 (by exact_mod_cast h))),Ô (by omega) (by omega),half];obtain⟨mid,hmid⟩:∃mid,mid=(P.length+(P.length+U.length+V.length)) / 2:=⟨_,rfl⟩;rw[←hmid,Ô (by omega) (by omega)]
  have hm1:P.length≤mid:=by omega
  have hm2:mid≤P.length+U.length+V.length:=by omega
  -- the search, and what is behind it
  have gen:∀lo hi:Nat,P.length≤lo→lo≤hi→hi≤P.length+U.length→hi≤mid→mid+(P.length+U.length)≤lo+(P.length+U.length+V.length)→(hi=P.length+U.length∨hi=mid)→(lo=P.length∨lo+(P.length+U.length+V.length)=mid+(P.length+U.length)) →
   Ë (fun(v:Int×Int) kk=>Ü rec (((mid+(P.length+U.length)-1:Nat)):Int) l m.1.1.1 m.1.1.2 m.1.2.1 m.1.2.2.1 m.1.2.2.2.1 m.1.2.2.2.2.1 m.1.2.2.2.2.2 m.2 v.1 v.2 (fun x y=>kk (x,y)) (ahq rec l (P.length:Int) ((P.length+U.length:Nat):Int) ((P.length+U.length+V.length:Nat):Int) (mid:Int) ((mid:Int)+((P.length+U.length:Nat):Int)) m some)) ((lo:Int),(hi:Int))=some (P++(ĸ (Ē m) (U++V)++Q),m):=by
   intro lo hi h1 h2 h3 h4 h5 h6 h7
   have hmu:mid<P.length+U.length+V.length:=by omega
   obtain⟨s,s1,s2,s3,s4,s5⟩:=Ym (f:=fun(v:Int×Int) kk=>Ü rec (((mid+(P.length+U.length)-1:Nat)):Int) l m.1.1.1 m.1.1.2 m.1.2.1 m.1.2.2.1 m.1.2.2.2.1 m.1.2.2.2.2.1 m.1.2.2.2.2.2 m.2 v.1 v.2 (fun x y=>kk (x,y)) (ahq rec l (P.length:Int) ((P.length+U.length:Nat):Int) ((P.length+U.length+V.length:Nat):Int) (mid:Int) ((mid:Int)+((P.length+U.length:Nat):Int)) m some))
    (K:=ahq rec l (P.length:Int) ((P.length+U.length:Nat):Int) ((P.length+U.length+V.length:Nat):Int) (mid:Int) ((mid:Int)+((P.length+U.length:Nat):Int)) m some) (lo:=lo) (hi:=hi) h2
    (fun h=>Ē m (giW l (mid+(P.length+U.length)-1-h))≥Ē m (giW l h)) (fun c c' q1 q2 q3 q4=>by
     have a1:=kU c c' (by omega) q2 (by omega);have a2:=kV (mid+(P.length+U.length)-1-c') (mid+(P.length+U.length)-1-c) (by omega) (by omega) (by omega)
     omega)
    (fun i j q1 q2 q3 kn=>ahx rec q2 (by omega) (by omega) (by omega) (by omega) (by omega) (kW _ (by omega) (by omega)) (kW _ (by omega) (by omega)) _ _)
    (fun i q1 q2 kn=>by
     dsimp only;unfold Ü
     rw[Î (decide_eq_false (by omega))])
   refine s5.trans ?_;obtain⟨e,he⟩:∃e,e=mid+(P.length+U.length)-s:=⟨_,rfl⟩
   have lu1:(U.take (s-P.length)).length=s-P.length:=by simp; omega
   have lu2:(U.drop (s-P.length)).length=P.length+U.length-s:=by simp; omega
   have lv1:(V.take (e-(P.length+U.length))).length=e-(P.length+U.length):=by simp; omega
   have lv2:(V.drop (e-(P.length+U.length))).length=P.length+U.length+V.length-e:=by simp; omega
   have hu:U=U.take (s-P.length)++U.drop (s-P.length):=(dK _ _).symm;have hv:V=V.take (e-(P.length+U.length))++V.drop (e-(P.length+U.length)):=(dK _ _).symm
   have F1:∀x∈U.drop (s-P.length),∀y∈V.take (e-(P.length+U.length)),Ē m y<Ē m x:=fun x hx y hy=>by
    obtain⟨i,i1,i2,i3⟩:=qz hx;obtain⟨j,j1,j2,j3⟩:=qy hy;have q:=s4 s (cz _) (by omega);rw[show mid+(P.length+U.length)-1-s=e-1 by omega] at q;have a1:=kV (P.length+U.length+j) (e-1) (by omega) (by omega) (by omega);have a2:=kU s (P.length+i) (by omega) (by omega) (by omega);rw[gV j y j3] at a1;rw[gU i x i3] at a2;omega
   have F2:∀x∈U.take (s-P.length),∀y∈V.drop (e-(P.length+U.length)),Ē m x≤Ē m y:=fun x hx y hy=>by
    obtain⟨i,i1,i2,i3⟩:=qy hx;obtain⟨j,j1,j2,j3⟩:=qz hy;have q:=s3 (s-1) (by omega) (by omega);rw[show mid+(P.length+U.length)-1-(s-1)=e by omega] at q;have a1:=kV e (P.length+U.length+j) (by omega) (by omega) (by omega);have a2:=kU (P.length+i) (s-1) (by omega) (by omega) (by omega);rw[gV j y j3] at a1;rw[gU i x i3] at a2;omega
   have hW':WOk m ((U.take (s-P.length)++U.drop (s-P.length))++(V.take (e-(P.length+U.length))++V.drop (e-(P.length+U.length)))):=by rw[←hu,←hv]; exact hW
   have:=afd hrec (P:=P) (u1:=U.take (s-P.length)) (u2:=U.drop (s-P.length)) (v1:=V.take (e-(P.length+U.length))) (v2:=V.drop (e-(P.length+U.length))) (Q:=Q) (by omega) (by omega) (by rw[←hu]; exact sU) (by rw[←hv]; exact sV) F1 F2 hW' (by omega)
    (a:=(P.length:Int)) (c:=((P.length+U.length:Nat):Int)) (b:=((P.length+U.length+V.length:Nat):Int)) (mid:=(mid:Int)) (n:=(mid:Int)+((P.length+U.length:Nat):Int)) (z:=(s:Int)) rfl (by omega) (by omega) (by omega) (by omega) (by omega)
   rw[←hu,←hv,←hle] at this;exact this
  by_cases hgt:mid<P.length+U.length
  ·rw[Ù (decide_eq_true (by omega)),Ô (by omega) (by omega),Ô (by omega) (by omega)];have:=gen (mid+(P.length+U.length)-(P.length+U.length+V.length)) mid (by omega) (by omega) (by omega) (cz _) (by omega) (.inr rfl) (.inr (by omega));rw[show((mid+(P.length+U.length)-1:Nat):Int)=(mid:Int)+((P.length+U.length:Nat):Int)-1 by omega,show((mid+(P.length+U.length)-(P.length+U.length+V.length):Nat):Int)=(mid:Int)+((P.length+U.length:Nat):Int)-((P.length+U.length+V.length:Nat):Int) by omega] at this;exact this
  ·rw[Î (decide_eq_false (by omega)),Ô (by omega) (by omega)];have:=gen P.length (P.length+U.length) (cz _) (by omega) (cz _) (by omega) (by omega) (.inl rfl) (.inl rfl);rw[show((mid+(P.length+U.length)-1:Nat):Int)=(mid:Int)+((P.length+U.length:Nat):Int)-1 by omega] at this;exact this
def I7 {P U V Q:List Way} (hU:1≤U.length) (hV:1≤V.length) (sU:Srt (Ē m) U) (sV:Srt (Ē m) V) (hW:WOk m (U++V)) (hl:P.length+U.length+V.length≤1000000) :
 Đ (P++(U++(V++Q))) P.length ((P.length+U.length:Nat):Int) ((P.length+U.length+V.length:Nat):Int) m=some (P++(ĸ (Ē m) (U++V)++Q),m) :=
 GK 99 1000000 (by decide) P U V Q hU hV (by omega) sU sV hW hl
end
section
variable {ρ:Type} {m:Ĺ}
inductive Chs (m:Ĺ) (bs:Nat):List Way→Prop
 |last {l:List Way}:l.length≤bs→Srt (Ē m) l→Chs m bs l
 |cons {u r:List Way}:u.length=bs→Srt (Ē m) u→Chs m bs r→Chs m bs (u++r)
def Chs.split {bs:Nat} {l:List Way} (h:Chs m bs l) (hl:bs<l.length):∃u r,l=u++r∧u.length=bs∧Srt (Ē m) u∧Chs m bs r:=by
 cases h with
 |last h1 h2=>omega
 | @cons u r h1 h2 h3=>exact⟨u,r,rfl,h1,h2,h3⟩
def Chs.srt {bs:Nat} {l:List Way} (h:Chs m bs l) (hl:l.length≤bs):Srt (Ē m) l:=by
 cases h with
 |last h1 h2=>exact h2
 | @cons u r h1 h2 h3 =>
  have:r=[]:=by
   rw[cD] at hl;exact cO.1 (by omega)
  rw[this,cW];exact h2
def csR (m:Ĺ) (bs:Nat):Nat→List Way→List Way
 |0,l=>l
 |f+1,l=>if bs≤l.length then ĸ (Ē m) (l.take bs)++csR m bs f (l.drop bs) else ĸ (Ē m) l
def mpR (m:Ĺ) (bs:Nat):Nat→List Way→List Way
 |0,l=>l
 |f+1,l=>if 2*bs≤l.length then ĸ (Ē m) (l.take (2*bs))++mpR m bs f (l.drop (2*bs)) else if bs<l.length then ĸ (Ē m) l else l
def ag6 {bs:Nat} (hb:1≤bs):∀(f:Nat) (l:List Way),l.length<f→Chs m bs (csR m bs f l)∧Stb (Ē m) l (csR m bs f l)
 |0,_,h=>by omega
 |f+1,l,h=>by
  unfold csR
  by_cases hl:bs≤l.length
  ·rw[if_pos hl];obtain⟨h1,h2⟩:=ag6 hb f (l.drop bs) (by simp; omega);refine⟨.cons (by rw[pU]; simp; omega) (jH _) h1,?_⟩;have:=(Ŋ (key:=Ē m) (l.take bs)).append h2
   rwa [dK] at this
  ·rw[if_neg hl];exact⟨.last (by rw[pU]; omega) (jH _),Ŋ _⟩
def agU {bs:Nat} (hb:1≤bs):∀(f:Nat) (l:List Way),l.length<f→Chs m bs l→Chs m (2*bs) (mpR m bs f l)∧Stb (Ē m) l (mpR m bs f l)
 |0,_,h,_=>by omega
 |f+1,l,h,hc=>by
  unfold mpR
  by_cases hl:2*bs≤l.length
  ·rw[if_pos hl]
   have hd:Chs m bs (l.drop (2*bs)):=by
    obtain⟨u,r,rfl,h1,_,h2⟩:=hc.split (by omega)
    have hr:bs≤r.length:=by rw[cD] at hl; omega
    have e:(u++r).drop (2*bs)=r.drop bs:=by
     rw[List.drop_append,f6 (by omega),dL];congr 1; omega
    rw[e];rcases fZ hr with h3|h3
    ·obtain⟨u2,r2,rfl,h4,_,h5⟩:=h2.split h3;rw[List.drop_append,f6 (by omega),dL,h4,gP,List.drop_zero];exact h5
    ·rw[f6 (by omega)];exact .last (by simp) List.Pairwise.nil
   obtain⟨h1,h2⟩:=agU hb f (l.drop (2*bs)) (by simp; omega) hd;refine⟨.cons (by rw[pU]; simp; omega) (jH _) h1,?_⟩;have:=(Ŋ (key:=Ē m) (l.take (2*bs))).append h2
   rwa [dK] at this
  ·rw[if_neg hl]
   by_cases h2:bs<l.length
   ·rw[if_pos h2];exact⟨.last (by rw[pU]; omega) (jH _),Ŋ _⟩
   ·rw[if_neg h2];exact⟨.last (by omega) (hc.srt (by omega)),Stb.refl _⟩
abbrev StT:=Int×Int×List Way×Int×Int×List (Val Õ)×List (Val Ã)×List (Val iJ)×List (Val â)×List (Val Ã)×List (Val œ)
def stM (a b:Int) (l:List Way) (m:Ĺ):StT:=(a,b,l,m.1.1.1,m.1.1.2,m.1.2.1,m.1.2.2.1,m.1.2.2.2.1,m.1.2.2.2.2.1,m.1.2.2.2.2.2,m.2)
def WOk.stb {l s:List Way} (h:WOk m l) (hs:Stb (Ē m) l s):WOk m s:=fun x hx=>h x (hs.mem.1 hx)
def aht {xs:List Way} (hW:WOk m xs) (hn:xs.length≤100000) (K:List Way×Ĺ→Option ρ) :
 Ë (fun(v:StT) kk=>gS (xs.length:Int) (20:Int) v.1 v.2.1 v.2.2.1 v.2.2.2.1 v.2.2.2.2.1 v.2.2.2.2.2.1 v.2.2.2.2.2.2.1 v.2.2.2.2.2.2.2.1 v.2.2.2.2.2.2.2.2.1 v.2.2.2.2.2.2.2.2.2.1 v.2.2.2.2.2.2.2.2.2.2 (fun u42 u43 u44 u45 u46 u47 u48 u49 u50 u51 u52=>kk (u42,u43,u44,u45,u46,u47,u48,u49,u50,u51,u52))
  (fun z3=>Ä (ä z3.2.1 z3.1 (xs.length:Int) (((z3.2.2.1,z3.2.2.2.1),z3.2.2.2.2.1,z3.2.2.2.2.2.1,z3.2.2.2.2.2.2.1,z3.2.2.2.2.2.2.2.1,z3.2.2.2.2.2.2.2.2.1),z3.2.2.2.2.2.2.2.2.2)) fun r4=>K r4)) (stM 0 20 xs m)=K (csR m 20 (xs.length+1) xs,m):=by
 refine Ě (fun v:StT=>∃(A R:List Way) (f:Nat),v=stM (A.length:Int) ((A.length+20:Nat):Int) (A++R) m∧A++csR m 20 f R=csR m 20 (xs.length+1) xs∧R.length<f∧A.length+R.length=xs.length∧WOk m R) (fun v=>(xs.length+100)-v.1.toNat) ?_ ⟨[],xs,xs.length+1,rfl,rfl,by omega,by simp,hW⟩;rintro v ⟨A,R,f,rfl,hR,hf,hl,hWR⟩;obtain⟨f,rfl⟩:∃g,f=g+1:=⟨f-1,by omega⟩
 have e0:csR m 20 (f+1) R=if 20≤R.length then ĸ (Ē m) (R.take 20)++csR m 20 f (R.drop 20) else ĸ (Ē m) R:=rfl
 rw[e0] at hR
 by_cases h:20≤R.length
 ·have lt:(R.take 20).length=20:=by simp; omega
  have li:(ĸ (Ē m) (R.take 20)).length=20:=by rw[pU,lt]
  refine .inr ⟨stM (((A++ĸ (Ē m) (R.take 20)).length:Nat):Int) (((A++ĸ (Ē m) (R.take 20)).length+20:Nat):Int) ((A++ĸ (Ē m) (R.take 20))++R.drop 20) m,⟨_,_,f,rfl,?_,by simp; omega,by rw[cD,li]; simp; omega,hWR.sub fun x hx=>List.mem_of_mem_drop hx⟩,by simp only[stM,cD,li]; omega,fun kn=>?_⟩
  ·rw[if_pos h] at hR;rw[cJ];exact hR
  ·show ifb (ile ((A.length+20:Nat):Int) (xs.length:Int)) (Ä (ä (A++R) (A.length:Int) ((A.length+20:Nat):Int) m) fun r1=>ck (((A.length+20:Nat):Int)+(20:Int)) fun n2=>kn (stM ((A.length+20:Nat):Int) n2 r1.1 r1.2)) _=_;have:=Hk (m:=m) (P:=A) (M:=R.take 20) (Q:=R.drop 20) (hWR.sub fun x hx=>fL hx) (by omega);rw[dK,lt] at this;rw[Ù (decide_eq_true (by omega)),this,À,Ô (by omega) (by omega)];congr 1;rw[cD,li,cJ];rfl
 ·refine .inl fun kn=>?_;show ifb (ile ((A.length+20:Nat):Int) (xs.length:Int)) _ (Ä (ä (A++R) (A.length:Int) (xs.length:Int) m) fun r4=>K r4)=_;have:=Hk (m:=m) (P:=A) (M:=R) (Q:=[]) hWR (by omega);rw[cW,hl] at this;rw[Î (decide_eq_false (by omega)),this,À];rw[if_neg h] at hR;rw[←hR,cW]
def ahs {xs:List Way} {bs:Nat} (hb:1≤bs) (hb2:bs≤200000) (hc:Chs m bs xs) (hW:WOk m xs) (hn:xs.length≤100000) (K:List Way×Ĺ→Option ρ) :
 Ë (fun(v:StT) kk=>ω (xs.length:Int) (bs:Int) v.1 v.2.1 v.2.2.1 v.2.2.2.1 v.2.2.2.2.1 v.2.2.2.2.2.1 v.2.2.2.2.2.2.1 v.2.2.2.2.2.2.2.1 v.2.2.2.2.2.2.2.2.1 v.2.2.2.2.2.2.2.2.2.1 v.2.2.2.2.2.2.2.2.2.2 (fun u16 u17 u18 u19 u20 u21 u22 u23 u24 u25 u26=>kk (u16,u17,u18,u19,u20,u21,u22,u23,u24,u25,u26))
  (fun z10=>ck (z10.1+(bs:Int)) fun n11=>ifb (ilt n11 (xs.length:Int)) (Ä (Đ z10.2.1 z10.1 n11 (xs.length:Int) (((z10.2.2.1,z10.2.2.2.1),z10.2.2.2.2.1,z10.2.2.2.2.2.1,z10.2.2.2.2.2.2.1,z10.2.2.2.2.2.2.2.1,z10.2.2.2.2.2.2.2.2.1),z10.2.2.2.2.2.2.2.2.2)) fun r12=>K r12) (K (z10.2.1,(((z10.2.2.1,z10.2.2.2.1),z10.2.2.2.2.1,z10.2.2.2.2.2.1,z10.2.2.2.2.2.2.1,z10.2.2.2.2.2.2.2.1,z10.2.2.2.2.2.2.2.2.1),z10.2.2.2.2.2.2.2.2.2))))) (stM 0 ((2*bs:Nat):Int) xs m)=K (mpR m bs (xs.length+1) xs,m):=by
 refine Ě (fun v:StT=>∃(A R:List Way) (f:Nat),v=stM (A.length:Int) ((A.length+2*bs:Nat):Int) (A++R) m∧A++mpR m bs f R=mpR m bs (xs.length+1) xs∧R.length<f∧A.length+R.length=xs.length∧WOk m R∧Chs m bs R) (fun v=>(xs.length+1000000)-v.1.toNat) ?_ ⟨[],xs,xs.length+1,by simp[stM],rfl,by omega,by simp,hW,hc⟩;rintro v ⟨A,R,f,rfl,hR,hf,hl,hWR,hcR⟩;obtain⟨f,rfl⟩:∃g,f=g+1:=⟨f-1,by omega⟩
 have e0:mpR m bs (f+1) R=if 2*bs≤R.length then ĸ (Ē m) (R.take (2*bs))++mpR m bs f (R.drop (2*bs)) else if bs<R.length then ĸ (Ē m) R else R:=rfl
 rw[e0] at hR
 by_cases h:2*bs≤R.length
 ·obtain⟨u,r,rfl,h1,h2,h3⟩:=hcR.split (by omega)
  have hr:bs≤r.length:=by rw[cD] at h; omega
  -- the second block
  obtain⟨u2,r2,rfl,h4,h5,h6⟩:∃u2 r2,r=u2++r2∧u2.length=bs∧Srt (Ē m) u2∧Chs m bs r2:=by
   rcases fZ hr with q|q
   ·exact h3.split q
   ·exact⟨r,[],by simp,q.symm,h3.srt (by omega),.last (by simp) List.Pairwise.nil⟩
  have e1:(u++(u2++r2)).take (2*bs)=u++u2:=by
   rw[←cJ,ft (by simp; omega),dT (by simp; omega)]
  have e2:(u++(u2++r2)).drop (2*bs)=r2:=by
   rw[←cJ,List.drop_append,f6 (by simp; omega),dL];rw[show 2*bs-(u++u2).length=0 by simp; omega];rfl
  have li:(ĸ (Ē m) (u++u2)).length=2*bs:=by rw[pU]; simp; omega
  rw[if_pos h,e1,e2] at hR;refine .inr ⟨stM (((A++ĸ (Ē m) (u++u2)).length:Nat):Int) (((A++ĸ (Ē m) (u++u2)).length+2*bs:Nat):Int) ((A++ĸ (Ē m) (u++u2))++r2) m,⟨_,_,f,rfl,by rw[cJ]; exact hR,by simp at hf; omega,by rw[cD,li]; simp at hl; omega,hWR.sub fun x hx=>by simp[hx],h6⟩,by simp only[stM,cD,li]; omega,fun kn=>?_⟩;show ifb (ile ((A.length+2*bs:Nat):Int) (xs.length:Int)) (ck ((A.length:Int)+(bs:Int)) fun n6=>Ä (Đ (A++(u++(u2++r2))) (A.length:Int) n6 ((A.length+2*bs:Nat):Int) m) fun r7=>ck ((2:Int)*(bs:Int)) fun n8=>ck (((A.length+2*bs:Nat):Int)+n8) fun n9=>kn (stM ((A.length+2*bs:Nat):Int) n9 r7.1 r7.2)) _=_
  have:=I7 (m:=m) (P:=A) (U:=u) (V:=u2) (Q:=r2) (by omega) (by omega) h2 h5 (hWR.sub fun x hx=>by rcases cE.1 hx with hx|hx<;>simp[hx]) (by omega)
  rw[h1,h4] at this;rw[List.length_append,List.length_append] at hl;rw[Ù (decide_eq_true (by omega)),Ô (by omega) (by omega),show(A.length:Int)+(bs:Int)=((A.length+bs:Nat):Int) by omega,show((A.length+2*bs:Nat):Int)=((A.length+bs+bs:Nat):Int) by omega,this,À,Ô (by omega) (by omega),Ô (by omega) (by omega)];congr 1;unfold stM;rw[List.length_append,li,List.append_assoc];refine Prod.ext (by dsimp only; omega) (Prod.ext (by dsimp only; omega) rfl)
 ·refine .inl fun kn=>?_;rw[if_neg h] at hR;show ifb (ile ((A.length+2*bs:Nat):Int) (xs.length:Int)) _ (ck ((A.length:Int)+(bs:Int)) fun n11=>ifb (ilt n11 (xs.length:Int)) (Ä (Đ (A++R) (A.length:Int) n11 (xs.length:Int) m) fun r12=>K r12) (K (A++R,m)))=_;rw[Î (decide_eq_false (by omega)),Ô (by omega) (by omega)]
  by_cases h2:bs<R.length
  ·rw[if_pos h2] at hR;obtain⟨u,r,rfl,h1,h3,h4⟩:=hcR.split h2;have:=I7 (m:=m) (P:=A) (U:=u) (V:=r) (Q:=[]) (by omega) (by rw[cD] at h2; omega) h3 (h4.srt (by rw[cD] at h; omega)) hWR (by rw[cD] at hl; omega);rw[cW,cW,show A.length+u.length+r.length=xs.length by rw[cD] at hl; omega] at this;rw[Ù (decide_eq_true (by omega)),show(A.length:Int)+(bs:Int)=((A.length+u.length:Nat):Int) by omega,this,À,hR]
  ·rw[if_neg h2] at hR;rw[Î (decide_eq_false (by omega)),hR]
abbrev StQ:=Int×List Way×Int×Int×List (Val Õ)×List (Val Ã)×List (Val iJ)×List (Val â)×List (Val Ã)×List (Val œ)
def stQ (b:Int) (l:List Way) (m:Ĺ):StQ:=(b,l,m.1.1.1,m.1.1.2,m.1.2.1,m.1.2.2.1,m.1.2.2.2.1,m.1.2.2.2.2.1,m.1.2.2.2.2.2,m.2)
def acf {xs:List Way} (hW:WOk m xs) (hn:xs.length≤100000):Į xs (xs.length:Int) m=some (ĸ (Ē m) xs,m):=by
 unfold Į iU;refine(aht hW hn (fun r4=>Ë (fun(v29:StQ) kk40=>gR (xs.length:Int) v29.1 v29.2.1 v29.2.2.1 v29.2.2.2.1 v29.2.2.2.2.1 v29.2.2.2.2.2.1 v29.2.2.2.2.2.2.1 v29.2.2.2.2.2.2.2.1 v29.2.2.2.2.2.2.2.2.1 v29.2.2.2.2.2.2.2.2.2 (fun u30 u31 u32 u33 u34 u35 u36 u37 u38 u39=>kk40 (u30,u31,u32,u33,u34,u35,u36,u37,u38,u39)) (fun z28=>some (z28.1,(((z28.2.1,z28.2.2.1),z28.2.2.2.1,z28.2.2.2.2.1,z28.2.2.2.2.2.1,z28.2.2.2.2.2.2.1,z28.2.2.2.2.2.2.2.1),z28.2.2.2.2.2.2.2.2)))) (stQ (20:Int) r4.1 r4.2))).trans ?_;obtain⟨c1,c2⟩:=ag6 (m:=m) (bs:=20) (by omega) (xs.length+1) xs (by omega);refine Ě (fun v:StQ=>∃(bs:Nat) (l:List Way),1≤bs∧bs≤200000∧v=stQ (bs:Int) l m∧Chs m bs l∧Stb (Ē m) xs l) (fun v=>400000-v.1.toNat) ?_ ⟨20,_,by omega,by omega,rfl,c1,c2⟩;rintro v ⟨bs,l,hb,hb2,rfl,hc,hs⟩;have hl:=hs.length
 by_cases h:bs<xs.length
 ·obtain⟨d1,d2⟩:=agU hb (l.length+1) l (by omega) hc;refine .inr ⟨stQ ((2*bs:Nat):Int) (mpR m bs (l.length+1) l) m,⟨2*bs,_,by omega,by omega,rfl,d1,hs.trans d2⟩,by simp only[stQ]; omega,fun kn=>?_⟩;have:=ahs (m:=m) (xs:=l) hb hb2 hc (hW.stb hs) (by omega) (fun r=>ck ((bs:Int)*(2:Int)) fun n13=>kn (stQ n13 r.1 r.2));rw[hl] at this;show ifb (ilt (bs:Int) (xs.length:Int)) (ck ((2:Int)*(bs:Int)) fun n5=>_) _=_;rw[Ù (decide_eq_true (by omega)),Ô (by omega) (by omega),show(2:Int)*(bs:Int)=((2*bs:Nat):Int) by push_cast; rfl];rw[hl];refine dV ?_ (this.trans ?_)
  ·rfl
  ·rw[Ô (by omega) (by omega)];congr 2;omega
 ·refine .inl fun kn=>?_;show ifb (ilt (bs:Int) (xs.length:Int)) _ (some (l,m))=_;rw[Î (decide_eq_false (by omega)),vE (hc.srt (by omega)) hs]
end
abbrev Mx:=Int×List Int
def ħ:List Mx→Way→Prop
 |[],[]=>True
 |m::ms,l::ls=>l.Perm m.2∧ħ ms ls
 |_,_=>False
def ħ.len:∀{ms:List Mx} {w:Way},ħ ms w→w.length=ms.length
 |[],[],_=>rfl
 |m::ms,l::ls,h=>by simp[h.2.len]
def ħ.at:∀{ms:List Mx} {w:Way} {i:Nat} {m:Mx},ħ ms w→ms[i]?=some m→∃l,w[i]?=some l∧l.Perm m.2
 |[],_,i,_,_,h=>by simp at h
 |m::ms,l::ls,0,x,h,hx=>by
  simp at hx; subst hx;exact⟨l,rfl,h.1⟩
 |m::ms,l::ls,i+1,x,h,hx=>by
  simp only[fA] at hx ⊢;exact h.2.at hx
def stp (d:Int) (m:Mx) (l:List Int) (x:Int):Int :=
 if m.1<d then match l.findIdx? (·==x) with|some k=>m.2.getD k 0|none=>x else x
def ś:List Mx→Way→Int→Int→Int
 |m::ms,l::ls,x,d=>stp d m l (ś ms ls x d)
 |_,_,x,_=>x
def ae9 {ms:List Mx} {w:Way} {i:Nat} {m:Mx} {l:List Int} (hm:ms[i]?=some m) (hl:w[i]?=some l) (x d:Int):ś (ms.drop i) (w.drop i) x d=stp d m l (ś (ms.drop (i+1)) (w.drop (i+1)) x d):=by
 obtain⟨h1,rfl⟩:=cB.1 hm;obtain⟨h2,rfl⟩:=cB.1 hl;rw[du h1,du h2,ś]
def who_ok {m:Ĺ} {w:Way} (h:ħ m.2 w) (hn:m.2.length≤1000) (hl:∀x∈m.2,x.2.length≤1000) (x d:Int):su m w x d=some (ś m.2 w x d):=by
 unfold su WZ;rw[Ñ,Ô (by omega) (by omega)];refine Ě (fun s:Int×Int=>∃i:Nat,i≤m.2.length∧s.2=(i:Int)-1∧s.1=ś (m.2.drop i) (w.drop i) x d) (fun s=>(s.2+1).toNat) ?_ ⟨m.2.length,Nat.le_refl _,rfl,?_⟩
 ·rintro⟨s1,s2⟩ ⟨i,hi,h1,h2⟩;simp only at h1 h2;subst h1 h2
  cases i with
  |zero =>
   refine .inl fun kn=>?_
   try dsimp only
   unfold yM;rw[Î (by simp[ige])]; rfl
  |succ i =>
   obtain⟨y,hy⟩:∃y,m.2[i]?=some y:=⟨_,cw hi⟩;obtain⟨l,hw,hp⟩:=h.at hy
   have hll:l.length≤1000:=by rw[hp.length_eq]; exact hl y (cG hy)
   have e0:((i+1:Nat):Int)-1=i:=by omega
   refine .inr ⟨(ś (m.2.drop i) (w.drop i) x d,(i:Int)-1),⟨i,by omega,rfl,rfl⟩,by simp only[e0]; omega,fun kn=>?_⟩
   try dsimp only
   unfold yM;rw[e0,Ù (by simp[ige]),È hw,V8 (by omega),À,ae9 hy hw];unfold stp
   cases hf:l.findIdx? (·==ś (m.2.drop (i+1)) (w.drop (i+1)) x d) with
   |none =>
    dsimp only;rw[Î (by simp[ige]),Ô (by omega) (by omega)]
    split<;>rfl
   |some k =>
    dsimp only;rw[Ù (by simp[ige]),È hy]
    have hk:k<y.2.length:=by rw[←hp.length_eq]; exact(dJ.1 hf).1
    by_cases hd:y.1<d
    ·rw[Ù (by simp[ilt,hd]),È hy,È (cw hk),Ô (by omega) (by omega),if_pos hd];rw[dZ,cw hk]; rfl
    ·rw[Î (by simp[ilt,hd]),Ô (by omega) (by omega),if_neg hd]
 ·simp only[List.drop_length];rw[←h.len,List.drop_length];unfold ś;rfl
def Wo:List Int→List Int→Int
 |x::l,y::m=>(if y=x then 0 else 1)+Wo l m
 |_,_=>0
def ME:List Mx→Way→Int
 |m::ms,l::ls=>Wo l m.2+ME ms ls
 |_,_=>0
def SN:∀{l m:List Int} {k:Nat} {x y:Int},l[k]?=some x→m[k]?=some y→Wo (l.take (k+1)) (m.take (k+1))=Wo (l.take k) (m.take k)+if y=x then 0 else 1
 |[],_,_,_,_,h,_=>by simp at h
 |_::_,[],_,_,_,_,h=>by simp at h
 |a::l,b::m,0,x,y,h1,h2=>by
  simp at h1 h2; subst h1 h2;simp[Wo]
 |a::l,b::m,k+1,x,y,h1,h2=>by
  simp only[fA] at h1 h2;have:=SN h1 h2;simp only[gw,Wo,this]; omega
def SM:∀{ms:List Mx} {w:Way} {k:Nat} {m:Mx} {l:List Int},ms[k]?=some m→w[k]?=some l→ME (ms.take (k+1)) (w.take (k+1))=ME (ms.take k) (w.take k)+Wo l m.2
 |[],_,_,_,_,h,_=>by simp at h
 |_::_,[],_,_,_,_,h=>by simp at h
 |a::l,b::m,0,x,y,h1,h2=>by
  simp at h1 h2; subst h1 h2;simp[ME]
 |a::l,b::m,k+1,x,y,h1,h2=>by
  simp only[fA] at h1 h2;have:=SM h1 h2;simp only[gw,ME,this]; omega
def Wn:∀l m:List Int,0≤Wo l m∧Wo l m≤m.length
 |[],m=>by simp[Wo]
 |_::_,[]=>by simp[Wo]
 |a::l,b::m=>by
  have:=Wn l m;unfold Wo;simp only[List.length_cons]
  split<;>omega
def abT {n:Nat}:∀{ms:List Mx} {w:Way},(∀m∈ms,m.2.length≤n)→0≤ME ms w∧ME ms w≤(ms.length*n:Nat)
 |[],w,_=>by simp[ME]
 |m::ms,[],_=>by
  unfold ME; exact⟨Int.le_refl _,Int.natCast_nonneg _⟩
 |m::ms,l::ls,h=>by
  have h1:=Wn l m.2;have h2:=h m (by simp);have h3:=abT (w:=ls) fun x hx=>h x (List.mem_cons_of_mem _ hx);unfold ME
  have:(m::ms).length*n=ms.length*n+n:=by rw[cN,Nat.succ_mul]
  omega
def ahh {n:Nat} {ms:List Mx} (hn:ms.length≤1000) (hl:∀x∈ms,x.2.length≤1000) (w:Way) (i:Nat):0≤ME (ms.take i) w∧ME (ms.take i) w≤1000000:=by
 have h1:=abT (n:=1000) (ms:=ms.take i) (w:=w) fun m hm=>hl m (fL hm);have h2:(ms.take i).length*1000≤1000*1000:=cZ _ (by rw[cT]; omega);omega
def abU {m:Ĺ} {w:Way} (h:ħ m.2 w) (hn:m.2.length≤1000) (hl:∀x∈m.2,x.2.length≤1000):ĭ m w=some (ME m.2 w):=by
 unfold ĭ Fq;have hlen:=h.len;refine Ě (fun s:Int×Int=>∃i:Nat,i≤w.length∧s.2=(i:Int)∧s.1=ME (m.2.take i) (w.take i)) (fun s=>w.length-s.2.toNat) ?_ ⟨0,Nat.zero_le _,rfl,by simp[ME]⟩;rintro⟨s1,s2⟩ ⟨i,hi,h1,h2⟩;simp only at h1 h2;subst h1 h2;rcases Nat.lt_or_ge i w.length with hlt|hge
 ·obtain⟨y,hy⟩:∃y,m.2[i]?=some y:=⟨_,cw (by omega)⟩;obtain⟨l,hw,hp⟩:=h.at hy
  have hll:l.length≤1000:=by rw[hp.length_eq]; exact hl y (cG hy)
  refine .inr ⟨(ME (m.2.take (i+1)) (w.take (i+1)),(i:Int)+1),⟨i+1,hlt,by simp,rfl⟩,by simp only[cP]; omega,fun kn=>?_⟩
  try dsimp only
  unfold oz;rw[Ó hlt,È hw];have hb:=ahh (n:=0) hn hl (w.take i) i;refine Ě (fun s:Int×Int=>∃k:Nat,k≤l.length∧s.2=(k:Int)∧s.1=ME (m.2.take i) (w.take i)+Wo (l.take k) (y.2.take k)) (fun s=>l.length-s.2.toNat) ?_ ⟨0,Nat.zero_le _,rfl,by simp[Wo]⟩;rintro⟨t1,t2⟩ ⟨k,hk,h1,h2⟩;simp only at h1 h2;subst h1 h2;have hb2:=Wn (l.take k) (y.2.take k)
  have hb3:(y.2.take k).length≤1000:=by rw[cT]; omega
  rcases cV k l.length with hkl|hkg
  ·obtain⟨u,hu⟩:∃u,l[k]?=some u:=⟨_,cw hkl⟩;obtain⟨v,hv⟩:∃v,y.2[k]?=some v:=⟨_,cw (by rw[←hp.length_eq]; exact hkl)⟩;refine .inr ⟨(ME (m.2.take i) (w.take i)+Wo (l.take (k+1)) (y.2.take (k+1)),(k:Int)+1),⟨k+1,hkl,by simp,rfl⟩,by simp only[cP]; omega,fun kn=>?_⟩
   try dsimp only
   unfold oy;rw[Ó hkl,È hu,È hy,È hv,SN hu hv]
   by_cases huv:v=u
   ·rw[Î (by simp[ine,huv]),Ô (by omega) (by omega),if_pos huv]; simp
   ·rw[Ù (by simp[ine,huv]),Ô (by omega) (by omega),Ô (by omega) (by omega),if_neg huv,Int.add_assoc]
  ·refine .inl fun kn'=>?_
   have hk':k=l.length:=by omega
   subst hk'
   try dsimp only
   unfold oy;rw[ß];dsimp only;rw[Ô (by omega) (by omega),SM hy hw,List.take_length,hp.length_eq,List.take_length]
 ·refine .inl fun kn=>?_
  have hk':i=w.length:=by omega
  subst hk'
  try dsimp only
  unfold oz;rw[ß,List.take_length,hlen,List.take_length]
def ahS (a:Int):List Int→List Int
 |[]=>[a]
 |b::t=>if a≤b then a::b::t else b::ahS a t
def lU:List Int→List Int
 |[]=>[]
 |a::t=>ahS a (lU t)
def wJ (p:Option Int):List Int→List Int
 |[]=>[]
 |a::t=>if p=some a then wJ (some a) t else a::wJ (some a) t
def We (l:List Int):List Int:=wJ none (lU l)
def LC (a:Int):∀l,(ahS a l).Perm (a::l)
 |[]=>List.Perm.refl _
 |b::t=>by
  unfold ahS
  split
  ·exact List.Perm.refl _
  ·exact((LC a t).cons b).trans (List.Perm.swap a b t)
def Ş:∀l,(lU l).Perm l
 |[]=>List.Perm.refl _
 |a::t=>(LC a _).trans ((Ş t).cons a)
def LB (a:Int):∀{l:List Int},l.Pairwise (·≤·)→(ahS a l).Pairwise (·≤·)
 |[],_=>by simp[ahS]
 |b::t,h=>by
  rw[List.pairwise_cons] at h;unfold ahS
  split
  ·rename_i hab;refine dk.2 ⟨fun x hx=>?_,dk.2 h⟩;rcases cF.1 hx with rfl|hx
   ·exact hab
   ·have:=h.1 x hx; omega
  ·rename_i hab;refine dk.2 ⟨fun x hx=>?_,LB a h.2⟩;rcases cF.1 ((LC a t).mem_iff.1 hx) with rfl|hx
   ·omega
   ·exact h.1 x hx
def lh:∀l:List Int,(lU l).Pairwise (·≤·)
 |[]=>List.Pairwise.nil
 |a::t=>LB a (lh t)
def PS (l:List Int):wM l=lU l:=by
 have h1:(wM l).Pairwise (·≤·):=by
  have:=List.pairwise_mergeSort (le:=fun a b:Int=>decide (a≤b)) (fun a b c h1 h2=>by simp at *; omega) (fun a b=>by simp; omega) l
  exact this.imp fun h=>by simpa using h
 exact List.Perm.eq_of_pairwise (le:=(·≤·)) (fun a b _ _ h1 h2=>by omega) h1 (lh l) ((List.mergeSort_perm l _).trans (Ş l).symm)
def Ol (a:Int):∀(l:List Int) (p:Option Int),wJ p (l++[a])=wJ p l++(if (match l.getLast? with|some b=>some b|none=>p)=some a then[] else[a])
 |[],p=>by simp only[dL,wJ,List.getLast?_nil]; rfl
 |b::t,p=>by
  have ih:=Ol a t (some b)
  have e:(match (b::t).getLast? with|some c=>some c|none=>p)=(match t.getLast? with|some c=>some c|none=>some b):=by
   cases t with
   |nil=>rfl
   |cons c t =>
    rw[List.getLast?_cons_cons]
    cases h:(c::t).getLast? with
    |none=>simp at h
    |some x=>rfl
  rw[e];simp only[eZ,wJ,ih]
  split<;>simp
def A0 (l:List Int):∀m,m≤l.length→Lib.compactUpTo l.toArray m=wJ none (l.take m)
 |0,_=>by simp[Lib.compactUpTo,wJ]
 |m+1,h=>by
  have hm:m<l.length:=h;rw[Lib.compactUpTo_succ,A0 l m (by omega),take_succ (cw hm),Ol];congr 1
  have e1:l.toArray[m]! = l[m]:=by simp[getElem!_pos,hm]
  rw[e1];unfold Lib.keeps;rw[e1]
  cases m with
  |zero=>simp
  |succ m =>
   have hm':m<l.length:=by omega
   have e2:l.toArray[m+1-1]! = l[m]:=by simp[getElem!_pos,hm']
   rw[e2]
   have e3:(l.take (m+1)).getLast?=some l[m]:=by rw[take_succ (cw hm'),List.getLast?_append]; rfl
   rw[e3]
   by_cases hne:l[m+1]=l[m]
   ·simp[hne]
   ·have:¬l[m]=l[m+1]:=fun h=>hne h.symm;simp[hne,this]
def Yc (l:List Int):zp l=wJ none l:=by
 unfold zp Lib.compact;rw[A0 l l.length (Nat.le_refl _),List.take_length]
def acm (l:List Int):zp (wM l)=We l:=by rw[PS,Yc]; rfl
def SW:∀{l:List Int} {p:Option Int} {x:Int},p≠some x→(x∈wJ p l↔x∈l)
 |[],_,_,_=>Iff.rfl
 |a::t,p,x,hp=>by
  unfold wJ
  by_cases hx:x=a
  ·subst hx;rw[if_neg hp]; simp
  ·have ih:=SW (l:=t) (p:=some a) (x:=x) (fun e=>hx (by cases e; rfl))
   split<;>simp[ih,hx]
def YF:∀{l:List Int} {p:Option Int},l.Pairwise (·≤·)→(∀q,p=some q→∀x∈l,q≤x)→(wJ p l).Pairwise (·<·)∧∀q,p=some q→∀x∈wJ p l,q<x
 |[],p,_,_=>⟨List.Pairwise.nil,fun _ _ _ h=>by cases h⟩
 |a::t,p,h,hp=>by
  rw[List.pairwise_cons] at h;obtain⟨i1,i2⟩:=YF (l:=t) (p:=some a) h.2 (fun q hq x hx=>by cases hq; exact h.1 x hx);unfold wJ
  split
  ·rename_i e;exact⟨i1,fun q hq x hx=>by rw[e] at hq; cases hq; exact i2 _ rfl x hx⟩
  ·rename_i e;refine⟨dk.2 ⟨fun x hx=>i2 _ rfl x hx,i1⟩,fun q hq x hx=>?_⟩;have:=hp q hq a (by simp);have hne:q≠a:=fun h=>e (by rw[hq,h]);rcases cF.1 hx with rfl|hx
   ·omega
   ·have:=i2 _ rfl x hx; omega
def Cq {l:List Int} {x:Int}:x∈We l↔x∈l:=by
 unfold We;rw[SW (by simp),(Ş l).mem_iff]
def WB (l:List Int):(We l).Pairwise (·<·):=(YF (lh l) (fun q hq=>by cases hq)).1
def SX:∀(l:List Int) (p:Option Int),(wJ p l).length≤l.length
 |[],_=>cz _
 |a::t,p=>by
  have:=SX t (some a);unfold wJ
  split<;>simp<;>omega
def IB (l:List Int):(We l).length≤l.length:=by
 unfold We;have:=SX (lU l) none
 rwa [(Ş l).length_eq] at this
def aio {l m:List Int} (hl:l.Pairwise (·<·)) (hm:m.Pairwise (·<·)) (h:∀x,x∈l↔x∈m):l=m:=by
 induction l generalizing m with
 |nil =>
  cases m with
  |nil=>rfl
  |cons a t=>have:=(h a).2 (by simp); cases this
 |cons a t ih =>
  rw[dk] at hl
  cases m with
  |nil=>have:=(h a).1 (by simp); cases this
  |cons b u =>
   rw[dk] at hm
   have hab:a=b:=by
    rcases cF.1 ((h a).1 (by simp)) with h1|h1
    ·exact h1
    ·rcases cF.1 ((h b).2 (by simp)) with h2|h2
     ·exact h2.symm
     ·have:=hm.1 a h1; have:=hl.1 b h2; omega
   subst hab;rw[ih hl.2 hm.2 fun x=>?_];constructor
   ·intro hx;rcases cF.1 ((h x).1 (by simp[hx])) with h1|h1
    ·have:=hl.1 x hx; omega
    ·exact h1
   ·intro hx;rcases cF.1 ((h x).2 (by simp[hx])) with h1|h1
    ·have:=hm.1 x hx; omega
    ·exact h1
def wS (b:Ď) (s:List (Int×ÿ)) (c:Cmp):Int :=
 if (c.2.2.1++c.2.2.2.1).any (fun id=>mY s id c.2.1==5) then 5 else
 if (c.2.2.1++c.2.2.2.1).any (fun id=>mY s id c.2.1==4) then 4 else
 if (c.2.2.1++c.2.2.2.1).any (fun id=>(lK b id c.2.1).isSome) then 9 else
 if 1<(þ c.2.2.1 c.2.2.2.1).length then 1 else if 1<(þ c.2.2.2.1 c.2.2.1).length then 1 else
 if (þ c.2.2.1 c.2.2.2.1).length+(þ c.2.2.2.1 c.2.2.1).length=0 then 1 else 0
def aaK (c:Cmp):Bool :=
 inP c.1 1 1099511627776&&(I0 c.2.1&&(inP c.2.2.2.2.1 (-1125899906842624) 1125899906842624&&(inP c.2.2.2.2.2.1 0 1073741824&&(l5 c.2.2.2.2.2.2 (-10000) 10000&&(wU c.2.2.1&&wU c.2.2.2.1)))))
def oO (b:Ď) (s:List (Int×ÿ)) (i:Nat) (c:Cmp):Int :=
 if !aaK c then 1 else if (b.2.2.2.2.1.take i).any (fun x=>x.1==c.1) then 6 else wS b s c
def D9 (a b:List Int):(þ a b).length≤a.length:=dX _ _
set_option maxHeartbeats 1000000 in
def Mc {b:Ď} (hn:b.2.2.2.2.1.length≤1000) (hl:b.2.2.2.1.length≤1000) (s:List (Int×ÿ)) {i:Nat} {c:Cmp} (hA:c.2.2.1.length≤1000) (hB:c.2.2.2.1.length≤1000)
 (hc:b.2.2.2.2.1[i]?=some c):ņ b s i=some (oO b s i c):=by
 have hi:i<b.2.2.2.2.1.length:=(List.getElem?_eq_some_iff.1 hc).1;unfold ņ og oO aaK;rw[È hc,Κ,À]
 cases inP c.1 1 1099511627776 with
 |false=>rfl
 |true =>
 rw[IM,À]
 cases I0 c.2.1 with
 |false=>rfl
 |true =>
 rw[Κ,À]
 cases inP c.2.2.2.2.1 (-1125899906842624) 1125899906842624 with
 |false=>rfl
 |true =>
 rw[Κ,À]
 cases inP c.2.2.2.2.2.1 0 1073741824 with
 |false=>rfl
 |true =>
 rw[Ed,À]
 cases l5 c.2.2.2.2.2.2 (-10000) 10000 with
 |false=>rfl
 |true =>
 rw[Ec (by omega),À]
 cases wU c.2.2.1 with
 |false=>rfl
 |true =>
 rw[Ec (by omega),À]
 cases wU c.2.2.2.1 with
 |false=>rfl
 |true =>
 have hg:((ile (0:Int) (i:Int))&&(ile (i:Int) (ñ b.2.2.2.2.1)))=true:=by simp[ile,ñ]; omega
 simp only[dw,é,Bool.and_self,cQ,if_false];rw[Ć hg,cP]
 -- what comes behind the IDs
 have rest:(Ä (ĥ ([c.2.2.1,c.2.2.2.1])) fun r12=>Ë (fun(v36:Int) kk38=>ō s r12 (Ú ([(5:Int),(4:Int)])) c.2.1 ([(5:Int),(4:Int)]) v36 (fun u37=>kk38 u37) (fun z23=>some z23) (fun _=>Ë (fun(v33:Int) kk35=>Ō r12 (Ú r12) b.1.1 b.1.2 b.2.1 b.2.2.1 b.2.2.2.1 b.2.2.2.2.1 b.2.2.2.2.2 c.2.1 v33 (fun u34=>kk35 u34) (fun z28=>some z28) (fun _=>Ä (Τ c.2.2.1 c.2.2.2.1) fun r30=>Ä (Τ c.2.2.2.1 c.2.2.1) fun r31=>ifb (igt (Ú r30) (1:Int)) (some (1:Int)) (ifb (igt (Ú r31) (1:Int)) (some (1:Int)) (ck ((Ú r30)+(Ú r31)) fun n32=>ifb (ieq n32 (0:Int)) (some (1:Int)) (some (0:Int)))))) (0:Int))) (0:Int))=some (wS b s c):=by
  rw[MC (by omega) (by omega),À]
  have hall:(c.2.2.1++c.2.2.2.1).length≤2000:=by simp; omega
  have last:(Ä (Τ c.2.2.1 c.2.2.2.1) fun r30=>Ä (Τ c.2.2.2.1 c.2.2.1) fun r31=>ifb (igt (Ú r30) (1:Int)) (some (1:Int)) (ifb (igt (Ú r31) (1:Int)) (some (1:Int)) (ck ((Ú r30)+(Ú r31)) fun n32=>ifb (ieq n32 (0:Int)) (some (1:Int)) (some (0:Int))))) =
   some (if 1<(þ c.2.2.1 c.2.2.2.1).length then 1 else if 1<(þ c.2.2.2.1 c.2.2.1).length then 1 else if (þ c.2.2.1 c.2.2.2.1).length+(þ c.2.2.2.1 c.2.2.1).length=0 then 1 else 0):=by
   rw[yi (by omega) (by omega),À,yi (by omega) (by omega),À];have l1:=D9 c.2.2.1 c.2.2.2.1;have l2:=D9 c.2.2.2.1 c.2.2.1;rw[Ñ,Ñ,Ô (by omega) (by omega)]
   by_cases c1:1<(þ c.2.2.1 c.2.2.2.1).length
   ·rw[Ù (by simp[igt]; omega),if_pos c1]
   rw[Î (by simp[igt]; omega),if_neg c1]
   by_cases c2:1<(þ c.2.2.2.1 c.2.2.1).length
   ·rw[Ù (by simp[igt]; omega),if_pos c2]
   rw[Î (by simp[igt]; omega),if_neg c2]
   by_cases c3:(þ c.2.2.1 c.2.2.2.1).length+(þ c.2.2.2.1 c.2.2.1).length=0
   ·rw[Ù (by simp[ieq]; omega),if_pos c3]
   rw[Î (by simp[ieq]; omega),if_neg c3]
  refine dV (mA [(5:Int),4] (fun _ want=>if (c.2.2.1++c.2.2.2.1).any (fun id=>mY s id c.2.1==want) then some want else none) some (some (if (c.2.2.1++c.2.2.2.1).any (fun id=>(lK b id c.2.1).isSome) then 9 else if 1<(þ c.2.2.1 c.2.2.2.1).length then 1 else if 1<(þ c.2.2.2.1 c.2.2.1).length then 1 else if (þ c.2.2.1 c.2.2.2.1).length+(þ c.2.2.2.1 c.2.2.1).length=0 then 1 else 0)) (fun j want hj hw kn=>?_) (fun kn=>?_)) ?_
  ·try dsimp only
   unfold ō;rw[Ó hj,ũ hj,Ę hw];refine Eq.trans (Ň (c.2.2.1++c.2.2.2.1) (fun id=>mY s id c.2.1==want) (fun _=>some want) (some want) (kn ((j:Int)+1)) (fun _=>rfl) (fun k a hk ha kn'=>?_) (fun kn'=>?_)) ?_
   ·try dsimp only
    unfold iv;rw[Ó hk,È ha,WW,À,Í hk (by omega),Č]
   ·try dsimp only
    unfold iv;rw[ß,Í hj (by simp)]
   ·cases List.any (c.2.2.1++c.2.2.2.1) (fun id=>mY s id c.2.1==want)<;>rfl
  ·try dsimp only
   unfold ō;rw[ß];refine Eq.trans (Ň (c.2.2.1++c.2.2.2.1) (fun id=>(lK b id c.2.1).isSome) (fun _=>some 9) (some 9) (some (if 1<(þ c.2.2.1 c.2.2.2.1).length then 1 else if 1<(þ c.2.2.2.1 c.2.2.1).length then 1 else if (þ c.2.2.1 c.2.2.2.1).length+(þ c.2.2.2.1 c.2.2.1).length=0 then 1 else 0)) (fun _=>rfl) (fun k a hk ha kn'=>?_) (fun kn'=>?_)) ?_
   ·try dsimp only
    unfold Ō;have haw:=aeL hl a c.2.1;rw[Ó hk,È ha,Í hk (by omega)];rw[show vM ((b.1.1,b.1.2),b.2.1,b.2.2.1,b.2.2.2.1,b.2.2.2.2.1,b.2.2.2.2.2) a c.2.1=vM b a c.2.1 from rfl,haw,À]
    cases lK b a c.2.1<;>rfl
   ·try dsimp only
    unfold Ō;rw[ß,last]
   ·cases List.any (c.2.2.1++c.2.2.2.1) (fun id=>(lK b id c.2.1).isSome)<;>rfl
  ·unfold wS Ņ Ņ Ņ
   try dsimp only
   cases List.any (c.2.2.1++c.2.2.2.1) (fun id=>mY s id c.2.1==5) with
   |true=>rfl
   |false =>
   cases List.any (c.2.2.1++c.2.2.2.1) (fun id=>mY s id c.2.1==4)<;>rfl
 refine dV (Ň (b.2.2.2.2.1.take i) (fun x=>x.1==c.1) (fun z11=>ifb (ige z11 (0:Int)) (some 6) (some (wS b s c))) (some 6) (some (wS b s c)) (fun j=>?_) (fun j a hj ha kn=>?_) (fun kn=>?_)) ?_
 ·have:ige (j:Int) 0=true:=by simp[ige]
  rw[Ù this]
 ·try dsimp only
  unfold iw;rw[rest,Ó hj,È ha,Í hj (by rw[List.length_take]; omega),Č]
 ·try dsimp only
  unfold iw;rw[ß,rest]
 ·cases List.any (b.2.2.2.2.1.take i) (fun x=>x.1==c.1)<;>rfl
def VB (b:Ď) (g:ÿ):List Int :=
 [g.2.1]++(b.2.2.2.2.1.filter fun c=>!(c.2.2.1.contains g.1==c.2.2.2.1.contains g.1)).map (fun c=>c.2.1)++(b.2.2.2.2.2.filter fun n=>n.1==g.1).map (fun n=>n.2)
def ã (b:Ď) (g:ÿ):List Int:=We (VB b g)
structure wu (b:Ď):Prop where
 gauges:b.2.1.length≤1000
 uses:b.2.2.1.length≤1000
 loans:b.2.2.2.1.length≤1000
 compares:b.2.2.2.2.1.length≤1000
 looks:b.2.2.2.2.2.length≤1000
 piles:∀c∈b.2.2.2.2.1,c.2.2.1.length≤1000∧c.2.2.2.1.length≤1000
def S9 (l:List Int):(wM l).length=l.length:=List.length_mergeSort l
def VA {b:Ď} (hs:wu b) (g:ÿ):(VB b g).length≤2001:=by
 have h1:=hs.compares;have h2:=hs.looks;have h3:=dX (fun c:Cmp=>!(c.2.2.1.contains g.1==c.2.2.2.1.contains g.1)) b.2.2.2.2.1;have h4:=dX (fun n:Int×Int=>n.1==g.1) b.2.2.2.2.2;simp only[VB,cD,dl,dv];omega
def adZ {b:Ď} (hs:wu b) (g:ÿ):oN b g=some (ã b g):=by
 unfold oN Rx;have hr:=VA hs g
 have hd:(ã b g).length≤2001:=by
  unfold ã;have:=IB (VB b g);omega
 have hcl:=hs.compares;have hll:=hs.looks;refine ĩ b.2.2.2.2.1 (fun i=>[g.2.1]++((b.2.2.2.2.1.take i).filter fun c=>!(c.2.2.1.contains g.1==c.2.2.2.1.contains g.1)).map (fun c=>c.2.1)) _ rfl (fun i c hi hc kn=>?_) (fun kn=>?_)
 ·try dsimp only
  unfold vx;obtain⟨p1,p2⟩:=hs.piles c (List.mem_of_getElem? hc);rw[Ó hi,È hc,Ś (by omega),À,Ś (by omega),À,Í hi (by omega),Í hi (by omega),take_succ hc,List.filter_append,List.map_append]
  have hlen:([g.2.1]++((b.2.2.2.2.1.take i).filter fun c=>!(c.2.2.1.contains g.1==c.2.2.2.1.contains g.1)).map (fun c=>c.2.1)).length≤1001:=by
   have h3:=dX (fun c:Cmp=>!(c.2.2.1.contains g.1==c.2.2.2.1.contains g.1)) (b.2.2.2.2.1.take i);rw[cT] at h3;simp only[cD,dl,dv];omega
  rw[Ø (by simp only[dv]; omega),Am.iff_true]
  cases h:(c.2.2.1.contains g.1==c.2.2.2.1.contains g.1) with
  |true=>simp only[dw,é,d9,h,cQ,if_false,fm,fo,cW]
  |false=>simp only[ff,oH,d9,h,if_true,fm,eo,fo,cJ]
 ·try dsimp only
  unfold vx;rw[ß,List.take_length];refine ĩ b.2.2.2.2.2 (fun i=>[g.2.1]++(b.2.2.2.2.1.filter fun c=>!(c.2.2.1.contains g.1==c.2.2.2.1.contains g.1)).map (fun c=>c.2.1)++((b.2.2.2.2.2.take i).filter fun n=>n.1==g.1).map (fun n=>n.2)) _ (by simp) (fun i n hi hn kn=>?_) (fun kn=>?_)
  ·try dsimp only
   unfold vw;rw[Ó hi,È hn,Í hi (by omega),Í hi (by omega),take_succ hn,List.filter_append,List.map_append]
   have hlen:([g.2.1]++(b.2.2.2.2.1.filter fun c=>!(c.2.2.1.contains g.1==c.2.2.2.1.contains g.1)).map (fun c=>c.2.1)++((b.2.2.2.2.2.take i).filter fun n=>n.1==g.1).map (fun n=>n.2)).length≤2001:=by
    have h3:=dX (fun c:Cmp=>!(c.2.2.1.contains g.1==c.2.2.2.1.contains g.1)) b.2.2.2.2.1;have h4:=dX (fun n:Int×Int=>n.1==g.1) (b.2.2.2.2.2.take i);rw[cT] at h4;simp only[cD,dl,dv];omega
   rw[Ø (by simp only[dv]; omega),Am.iff_true]
   cases h:(n.1==g.1) with
   |true =>
    have:ieq n.1 g.1=true:=h;simp[h,this]
   |false =>
    have:ieq n.1 g.1=false:=h;simp[h,this]
  ·try dsimp only
   unfold vw;rw[ß,List.take_length];rw[show([g.2.1]++(b.2.2.2.2.1.filter fun c=>!(c.2.2.1.contains g.1==c.2.2.2.1.contains g.1)).map (fun c=>c.2.1)++(b.2.2.2.2.2.filter fun n=>n.1==g.1).map (fun n=>n.2))=VB b g from rfl];dsimp only;rw[Ø (by omega),Am.iff_true,Ø (by rw[S9]; omega),Am.iff_true,acm];rfl
def É (b:Ď):List (Int×Int):=b.2.1.flatMap fun g=>(ã b g).map fun d=>((g.1,d):Int×Int)
def L6 {b:Ď} (hs:wu b) (g:ÿ):(ã b g).length≤2001:=by
 unfold ã;have:=IB (VB b g);have:=VA hs g;omega
def B9 {α β:Type} (f:α→List β) (n:Nat) (h:∀a,(f a).length≤n):∀l:List α,(l.flatMap f).length≤l.length*n
 |[]=>by simp
 |a::l=>by
  have:=B9 f n h l;have:=h a;simp only[dz,cD,cN,cY,eY];omega
def Qc {b:Ď} (hs:wu b):pX b=some (É b):=by
 unfold pX K8;have hg:=hs.gauges
 have hlen:∀l:List ÿ,(l.flatMap fun g=>(ã b g).map fun d=>((g.1,d):Int×Int)).length≤l.length*2001:=fun l =>
  B9 _ 2001 (fun g=>by rw[dl]; exact L6 hs g) l
 refine ĩ b.2.1 (fun i=>(b.2.1.take i).flatMap fun g=>(ã b g).map fun d=>((g.1,d):Int×Int)) _ rfl (fun i g hi hg' kn=>?_) (fun kn=>?_)
 ·try dsimp only
  unfold rq;rw[Ó hi,È hg'];rw[show oN ((b.1.1,b.1.2),b.2.1,b.2.2.1,b.2.2.2.1,b.2.2.2.2.1,b.2.2.2.2.2) g=oN b g from rfl,adZ hs,À];have hd:=L6 hs g;have hi2:=hlen (b.2.1.take i)
  have htl:(b.2.1.take i).length≤1000:=by rw[cT]; omega
  refine ĩ (ã b g) (fun j=>((b.2.1.take i).flatMap fun g=>(ã b g).map fun d=>((g.1,d):Int×Int))++((ã b g).take j).map fun d=>((g.1,d):Int×Int)) _ (by simp) (fun j d hj hd' kn'=>?_) (fun kn'=>?_)
  ·try dsimp only
   unfold ro;rw[Ó hj,È hd',Í hj (by omega),take_succ hd',List.map_append];rw[Ø (by simp only[List.length_append,List.length_map,List.length_take,List.length_singleton]; omega),Am.iff_true];simp
  ·try dsimp only
   unfold ro;rw[ß,List.take_length];dsimp only;rw[Í hi (by omega),take_succ hg',List.flatMap_append];simp
 ·try dsimp only
  unfold rq;rw[ß,List.take_length];rfl
def qt (b:Ď) (s:List (Int×ÿ)):List Int :=
 b.2.2.1.map (fun u=>GH s u.1 u.2)++(b.2.2.2.1.mapIdx (fun i l=>RK b s i l)++(b.2.2.2.2.1.mapIdx (fun i c=>oO b s i c)++b.2.2.2.2.2.map (fun u=>GH s u.1 u.2)))
def TZ {α:Type} {f:Int→Option Int} {g:Nat→α→Int} (l:List α) (h:∀(i:Nat) (a:α),l[i]?=some a→f i=some (g i a)):JH f (wI l.length)=some (l.mapIdx g):=by
 have h1:∀i,i<l.length→f (i:Int)=some ((l.mapIdx g)[i]?.getD 0):=by
  intro i hi;rw[h i l[i] (cw hi)];simp[hi]
 have h2:∀x∈wI l.length,f x=some ((l.mapIdx g)[x.toNat]?.getD 0):=by
  intro x hx;unfold wI at hx;obtain⟨i,hi,rfl⟩:=List.mem_map.1 hx;rw[h1 i (by simpa using hi)];rfl
 rw[CI h2];congr 1;refine List.ext_getElem (by simp[wI]) fun i h3 h4=>?_
 have h5:i<l.length:=by simpa using h4
 simp[wI,h5]
def afy {b:Ď} (hs:wu b) (s:List (Int×ÿ)):nO b s=some (qt b s):=by
 unfold nO qt
 rw[CI (fun u _=>Tw s u.1 u.2),À,TZ b.2.2.2.1 (fun i l hl=>VJ hs.loans hs.uses s hl),À,
  TZ b.2.2.2.2.1 (fun i c hc=>Mc hs.compares hs.loans s (hs.piles c (cG hc)).1 (hs.piles c (cG hc)).2 hc),À,CI (fun u _=>Tw s u.1 u.2),À]
def ę (b:Ď):Int :=
 if !l5 b.1 0 1000000 then 1 else
 if 12<b.2.1.length then 2 else if 40<b.2.2.1.length then 2 else if 12<b.2.2.2.1.length then 2 else if 40<b.2.2.2.2.1.length then 2 else if 10<b.2.2.2.2.2.length then 2 else
 if mE b != 0 then mE b else
 match (qt b (Ŕ b)).find? (fun e=>e != 0) with
 |some e=>e
 |none=>if 59<(É b).length then 2 else if 300<2*b.2.1.length+2*((É b).length-b.2.1.length:Int)+2*b.2.2.2.2.1.length then 2 else 0
def OK {b:Ď} (hs:wu b):(É b).length≤2001000:=by
 have:=B9 (fun g:ÿ=>(ã b g).map fun d=>((g.1,d):Int×Int)) 2001 (fun g=>by rw[List.length_map]; exact L6 hs g) b.2.1;have h2:=hs.gauges;unfold É;omega
def vY {b:Ď} (hs:wu b) (hr:∀g∈b.2.1,I64 g.2.2.2.2.1.1):ż b=some (ę b):=by
 unfold ż Lm ę;rw[Ed,À]
 cases l5 b.1 0 1000000 with
 |false=>rfl
 |true =>
 have h1:=hs.gauges;have h2:=hs.compares;have h3:=OK hs;rw[Î (show(!true)=false from rfl),if_neg (by simp)];simp only[Ñ]
 by_cases c0:12<b.2.1.length
 ·rw[Ù (by simp[igt]; omega),if_pos c0]
 rw[Î (by simp[igt]; omega),if_neg c0]
 by_cases c1:40<b.2.2.1.length
 ·rw[Ù (by simp[igt]; omega),if_pos c1]
 rw[Î (by simp[igt]; omega),if_neg c1]
 by_cases c2:12<b.2.2.2.1.length
 ·rw[Ù (by simp[igt]; omega),if_pos c2]
 rw[Î (by simp[igt]; omega),if_neg c2]
 by_cases c3:40<b.2.2.2.2.1.length
 ·rw[Ù (by simp[igt]; omega),if_pos c3]
 rw[Î (by simp[igt]; omega),if_neg c3]
 by_cases c4:10<b.2.2.2.2.2.length
 ·rw[Ù (by simp[igt]; omega),if_pos c4]
 rw[Î (by simp[igt]; omega),if_neg c4];rw[Ob hr h1,À]
 cases hm:(mE b != 0) with
 |true =>
  have:ine (mE b) 0=true:=hm;rw[Ù this,if_pos rfl]
 |false =>
 have:ine (mE b) 0=false:=hm;rw[Î this,if_neg (by simp)];rw[E4 h1,À];unfold Tn;rw[afy hs,À]
 cases(qt b (Ŕ b)).find? (fun e=>e != 0) with
 |some e=>rfl
 |none =>
 dsimp only;rw[Qc hs,À]
 by_cases c5:59<(É b).length
 ·rw[Ù (by simp[igt]; omega),if_pos c5]
 rw[Î (by simp[igt]; omega),if_neg c5];rw[Ô (by omega) (by omega),Ô (by omega) (by omega),Ô (by omega) (by omega),Ô (by omega) (by omega),Ô (by omega) (by omega),Ô (by omega) (by omega)]
 by_cases c6:300<2*b.2.1.length+2*((É b).length-b.2.1.length:Int)+2*b.2.2.2.2.1.length
 ·rw[Ù (by simp[igt]; omega),if_pos c6]
 rw[Î (by simp[igt]; omega),if_neg c6]
def wrapU {n:Nat} (h:n<18446744073709551616):IntKind.wrap .u64 (n:Int)=n:=by
 simp only[IntKind.wrap,IntKind.bits,IntKind.signed];simp;omega
def abR {n:Nat} (h:n<9223372036854775808):IntKind.wrap .i64 (n:Int)=n:=by
 simp only[IntKind.wrap,IntKind.bits,IntKind.signed];simp;omega
def jx (l:List (Int×Int)) (x d:Int):Option Nat:=l.findIdx? fun n=>decide (x=n.1)&&decide (d=n.2)
def V7 {l:List (Int×Int)} (hn:l.length≤100000000) (x d:Int):ð l (x,d)=some (match jx l x d with|some j=>(j:Int)|none=>-1):=by
 unfold ð Ÿ;refine Eq.trans (jF l (fun n=>decide (x=n.1)&&decide (d=n.2)) some (some (-1)) (fun i a hi ha kn=>?_) (fun kn=>?_)) ?_
 ·try dsimp only
  unfold Ĥ;rw[Ó hi,È ha,Í hi (by omega),Č,Bool.and_true]
 ·try dsimp only
  unfold Ĥ;rw[ß]
 ·unfold jx
  cases List.findIdx? (fun n=>decide (x=n.1)&&decide (d=n.2)) l<;>rfl
def atP (l:List (Int×Int)) (p:List Int) (d:Int):Int :=
 match p with
 |[]=>0
 |x::_=>match jx l x d with|some j=>(j:Int)+1|none=>0
def km {l:List (Int×Int)} {x d:Int} {j:Nat} (h:jx l x d=some j):j<l.length∧l[j]?=some (x,d):=by
 unfold jx at h;obtain⟨hj,hp,_⟩:=List.findIdx?_eq_some_iff_getElem.1 h;refine⟨hj,?_⟩;rw[List.getElem?_eq_getElem hj];simp only[Bool.and_eq_true,decide_eq_true_eq] at hp;congr 1;exact Prod.ext hp.1.symm hp.2.symm
def ain (m:Maker) (p:List Int) (d:Int) (hn:m.2.1.length≤100000000):ku m p d=some (atP m.2.1 p d):=by
 unfold ku yb atP
 cases p with
 |nil=>simp[Ñ,ieq]
 |cons x p =>
  have h:ieq (Ú (x::p)) 0=false:=by
   rw[Ñ];simp only[ieq,cN,beq_eq_false_iff_ne,ne_eq];omega
  rw[h,é,show(0:Int)=((0:Nat):Int) from rfl,È (a:=x) rfl,V7 hn,À]
  cases hx:jx m.2.1 x d with
  |none=>dsimp only; rw[Ô (by omega) (by omega)]; simp only[hx]; rfl
  |some j =>
   have:=(km hx).1;dsimp only;rw[Ô (by omega) (by omega)];simp only[hx]
def MM (s:List (Int×ÿ)) (p:List Int):Int×Int :=
 match p with
 |[]=>(0,1)
 |x::_=>match lP (k:=tI) (v:=Õ) x s with
  |some g=>g.2.2.2.2.1
  |none=>(0,0)
def Tm (s:List (Int×ÿ)) (p:List Int):iC s p=some (MM s p):=by
 unfold iC oe MM
 cases p with
 |nil=>simp[Ñ,ieq]
 |cons x p =>
  have h:ieq (Ú (x::p)) 0=false:=by
   rw[Ñ];simp only[ieq,cN,beq_eq_false_iff_ne,ne_eq];omega
  rw[h,é,show(0:Int)=((0:Nat):Int) from rfl,È (a:=x) rfl]
  cases hx:lP (k:=tI) (v:=Õ) x s with
  |none=>simp only[MF,hx]
  |some g=>simp only[MF,hx]
def YD {l:List (Int×Int)} (hr:∀r∈l,I64 r.1) (hn:l.length≤1000):jJ l=some (if l.any (fun r=>!MN r) then 1 else 0):=by
 unfold jJ KO;refine Eq.trans (Ň l (fun r=>!MN r) (fun _=>some 1) (some 1) (some 0) (fun _=>rfl) (fun i a hi ha kn=>?_) (fun kn=>?_)) ?_
 ·try dsimp only
  unfold rk;rw[Ó hi,È ha,SG (hr a (List.mem_of_getElem? ha)),À,Í hi (by omega),Č]
 ·try dsimp only
  unfold rk;rw[ß]
 ·cases l.any (fun r=>!MN r)<;>rfl
def wd (n d:Int):Int×Int:=(n / (Nat.gcd n.natAbs d.natAbs:Nat),d / (Nat.gcd n.natAbs d.natAbs:Nat))
def ou (r:Int×Int):MN r=true↔1≤r.2∧r.2≤2147483647∧(r.1.natAbs:Int)≤2147483647∧Nat.gcd r.1.natAbs r.2.natAbs=1:=by
 simp[MN]
def PY {n d:Int} (hd:0<d):∃g:Nat,0<g∧g=Nat.gcd n.natAbs d.natAbs∧n=(wd n d).1*g∧d=(wd n d).2*g:=by
 have hg:0<Nat.gcd n.natAbs d.natAbs:=Nat.gcd_pos_of_pos_right _ (by omega);refine⟨_,hg,rfl,?_,?_⟩
 ·exact(Int.ediv_mul_cancel (Int.ofNat_dvd_left.2 (Nat.gcd_dvd_left _ _))).symm
 ·exact(Int.ediv_mul_cancel (Int.ofNat_dvd_left.2 (Nat.gcd_dvd_right _ _))).symm
def WJ {n d:Int} (hd:0<d) (hn:n.natAbs≤2147483647) (hd2:d≤2147483647):MN (wd n d)=true:=by
 obtain⟨g,h0,hg,h1,h2⟩:=PY (n:=n) hd;rw[ou]
 have a1:n.natAbs=(wd n d).1.natAbs*g:=by conv=>lhs; rw[h1]; rw[fD,fF]
 have a2:d.natAbs=(wd n d).2.natAbs*g:=by conv=>lhs; rw[h2]; rw[fD,fF]
 have p2:0<(wd n d).2:=by
  rcases Int.lt_trichotomy (wd n d).2 0 with h|h|h
  ·have:=Int.mul_neg_of_neg_of_pos h (show(0:Int)<g by omega); omega
  ·rw[h] at h2; simp at h2; omega
  ·exact h
 have b1:(wd n d).1.natAbs≤n.natAbs:=by rw[a1]; exact fV _ h0
 have b2:(wd n d).2.natAbs≤d.natAbs:=by rw[a2]; exact fV _ h0
 refine⟨by omega,by omega,by omega,?_⟩;have:=Nat.gcd_mul_right (wd n d).1.natAbs g (wd n d).2.natAbs;rw[←a1,←a2,←hg] at this
 have h3:(Nat.gcd (wd n d).1.natAbs (wd n d).2.natAbs)*g=1*g:=by omega
 exact Nat.eq_of_mul_eq_mul_right h0 h3
def Ox {n d:Int} (hd:0<d) (hn:n.natAbs≤2147483647) (hd2:d≤2147483647):pW n d=some (wd n d,0):=by
 obtain⟨g,h0,hg,h1,h2⟩:=PY (n:=n) hd;have hr:=(ou _).1 (WJ hd hn hd2);unfold pW BJ;rw[PU ⟨by omega,by omega⟩,À,PU ⟨by omega,by omega⟩,À,ag2,À,←hg]
 have a1:n.natAbs=(wd n d).1.natAbs*g:=by conv=>lhs; rw[h1]; rw[fD,fF]
 have a2:d.natAbs=(wd n d).2.natAbs*g:=by conv=>lhs; rw[h2]; rw[fD,fF]
 have q1:Int.tdiv (n.natAbs:Int) (g:Int)=((wd n d).1.natAbs:Int):=by
  rw[a1,gN]; exact Int.mul_tdiv_cancel _ (by omega)
 have q2:Int.tdiv (d.natAbs:Int) (g:Int)=((wd n d).2.natAbs:Int):=by
  rw[a2,gN]; exact Int.mul_tdiv_cancel _ (by omega)
 have z:Ca (g:Int) 0=false:=by simp[Ca]; omega
 have g1:igt ((wd n d).1.natAbs:Int) 2147483647=false:=by simp[igt]; omega
 have g2:igt ((wd n d).2.natAbs:Int) 2147483647=false:=by simp[igt]; omega
 rw[Î z,Î z,q1,q2,wrapU (by omega),wrapU (by omega),abR (by omega),abR (by omega),Î g1,Î g2]
 have hd0:ilt d 0=false:=by simp[ilt]; omega
 rw[hd0]
 have e2:((wd n d).2.natAbs:Int)=(wd n d).2:=by omega
 rw[e2]
 by_cases hneg:n<0
 ·have hn0:ilt n 0=true:=by simp[ilt,hneg]
  have:(wd n d).1≤0:=by
   rcases gQ 0 (wd n d).1 with h|h
   ·have:=Int.mul_pos h (show(0:Int)<g by omega); omega
   ·exact h
  rw[hn0];rw[show(!true==false)=true from rfl,oH,Ô (by omega) (by omega)]
  have:0-((wd n d).1.natAbs:Int)=(wd n d).1:=by omega
  rw[this]
 ·have hn0:ilt n 0=false:=by simp[ilt]; omega
  have:0≤(wd n d).1:=by
   rcases gQ (wd n d).1 0 with h|h
   ·have:=Int.mul_neg_of_neg_of_pos h (show(0:Int)<g by omega); omega
   ·exact h
  rw[hn0];rw[show(!false==false)=false from rfl,é]
  have:((wd n d).1.natAbs:Int)=(wd n d).1:=by omega
  rw[this]
structure yE (r:Int×Int) (n d:Int):Prop where
 rat:MN r=true
 num : -n≤r.1∧r.1≤n
 den:r.2≤d
def yE.pos {r:Int×Int} {n d:Int} (h:yE r n d):1≤r.2:=((ou r).1 h.rat).1
def yE.i64 {r:Int×Int} {n d:Int} (h:yE r n d):I64 r.1:=by
 have:=((ou r).1 h.rat).2.2.1;exact⟨by omega,by omega⟩
def abY {x y:Int×Int} (hx:MN x=true) (hy:MN y=true):jJ [x,y]=some 0:=by
 rw[YD]
 ·simp[hx,hy]
 ·intro r hr
  have:MN r=true:=by simp at hr; rcases hr with rfl|rfl<;>assumption
  have:=((ou r).1 this).2.2.1;exact⟨by omega,by omega⟩
 ·simp
def qx {a b m n:Int} (h1 : -m≤a∧a≤m) (h2 : -n≤b∧b≤n) : -(m*n)≤a*b∧a*b≤m*n:=by
 have hm:0≤m:=by omega
 have hn:0≤n:=by omega
 have h3:(a*b).natAbs≤(m*n).natAbs:=by
  rw[fD,fD];exact fQ (by omega) (by omega)
 have h4:0≤m*n:=gE hm hn;omega
def subP (x y:Int×Int):Int×Int:=wd (x.1*y.2-y.1*x.2) (x.2*y.2)
def On {x y:Int×Int} (hx:yE x 1000 100) (hy:yE y 1000 100):(x.1*y.2-y.1*x.2).natAbs≤200000∧0<x.2*y.2∧x.2*y.2≤10000:=by
 have h1:=qx hx.num (show -100≤y.2∧y.2≤100 from⟨by have:=hy.pos; omega,hy.den⟩);have h2:=qx hy.num (show -100≤x.2∧x.2≤100 from⟨by have:=hx.pos; omega,hx.den⟩);have h3:=qx (show -100≤x.2∧x.2≤100 from⟨by have:=hx.pos; omega,hx.den⟩) (show -100≤y.2∧y.2≤100 from⟨by have:=hy.pos; omega,hy.den⟩);have h4:=Int.mul_pos (show 0<x.2 by have:=hx.pos; omega) (show 0<y.2 by have:=hy.pos; omega);refine⟨by omega,h4,by omega⟩
def Sub_ok {x y:Int×Int} (hx:yE x 1000 100) (hy:yE y 1000 100):Sa x y=some (subP x y,0):=by
 obtain⟨b1,b2,b3⟩:=On hx hy;have h1:=qx hx.num (show -100≤y.2∧y.2≤100 from⟨by have:=hy.pos; omega,hy.den⟩);have h2:=qx hy.num (show -100≤x.2∧x.2≤100 from⟨by have:=hx.pos; omega,hx.den⟩);unfold Sa Xx;rw[abY hx.rat hy.rat,À];rw[show ine (0:Int) 0=false from rfl,é,Ô (by omega) (by omega),Ô (by omega) (by omega),Ô (by omega) (by omega),Ô (by omega) (by omega),Ox b2 (by omega) (by omega),À];rfl
def acw {n d:Int} (hd:0<d):(wd n d).1.natAbs≤n.natAbs∧(wd n d).2≤d:=by
 obtain⟨g,h0,hg,h1,h2⟩:=PY (n:=n) hd
 have a1:n.natAbs=(wd n d).1.natAbs*g:=by conv=>lhs; rw[h1]; rw[fD,fF]
 have a2:d.natAbs=(wd n d).2.natAbs*g:=by conv=>lhs; rw[h2]; rw[fD,fF]
 have b1:(wd n d).1.natAbs≤n.natAbs:=by rw[a1]; exact fV _ h0
 have b2:(wd n d).2.natAbs≤d.natAbs:=by rw[a2]; exact fV _ h0
 exact⟨b1,by omega⟩
def Wu {x y:Int×Int} (hx:yE x 1000 100) (hy:yE y 1000 100):yE (subP x y) 200000 10000:=by
 obtain⟨b1,b2,b3⟩:=On hx hy;obtain⟨c1,c2⟩:=acw (n:=x.1*y.2-y.1*x.2) b2;exact⟨WJ b2 (by omega) (by omega),by unfold subP; omega,by unfold subP; omega⟩
def abI (k:Int×Int) (n:Int):Int×Int:=wd (k.1*n) k.2
def OQ {k:Int×Int} (hk:yE k 200000 10000) {n:Int} (hn : -10000≤n∧n≤10000):(k.1*n).natAbs≤2000000000:=by
 have:=qx hk.num hn;omega
def XO {n:Int} (hn : -10000≤n∧n≤10000):MN (n,1)=true:=by
 rw[ou];exact⟨by simp,by simp,by simp; omega,by simp⟩
def ahd {k:Int×Int} (hk:yE k 200000 10000) {n:Int} (hn : -10000≤n∧n≤10000):L2 k (n,1)=some (abI k n,0):=by
 have b:=OQ hk hn;have p:=hk.pos;have q:=hk.den;unfold L2 XA;rw[abY hk.rat (XO hn),À];rw[show ine (0:Int) 0=false from rfl,é,Ô (by simp only; omega) (by simp only; omega),Int.mul_one,Ô (by omega) (by omega),Ox (by omega) (by simp only; omega) (by omega),À];rfl
def Qg {k:Int×Int} (hk:yE k 200000 10000) {n:Int} (hn : -10000≤n∧n≤10000):yE (abI k n) 2000000000 10000:=by
 have b:=OQ hk hn;have p:=hk.pos;have q:=hk.den;obtain⟨c1,c2⟩:=acw (n:=k.1*n) (show 0<k.2 by omega);exact⟨WJ (by omega) (by omega) (by omega),by unfold abI; omega,by unfold abI; omega⟩
def cmpP (x y:Int×Int):Int:=if x=y then 0 else if x.1*y.2<y.1*x.2 then -1 else if y.1*x.2<x.1*y.2 then 1 else 0
def ag7 {x y:Int×Int} {m d:Int} (hx:yE x m d) (hy:yE y m d) (hm:m≤2000000000) (hd:d≤10000):LZ x y=some (cmpP x y):=by
 have h1:=qx hx.num (show -d≤y.2∧y.2≤d from⟨by have:=hy.pos; have:=hy.den; omega,hy.den⟩);have h2:=qx hy.num (show -d≤x.2∧x.2≤d from⟨by have:=hx.pos; have:=hx.den; omega,hx.den⟩);have h0:0≤m∧0≤d:=⟨by have:=hx.num; omega,by have:=hx.pos; have:=hx.den; omega⟩;have h3:m*d≤2000000000*10000:=Int.mul_le_mul hm hd h0.2 (by omega);unfold LZ Xu cmpP;rw[Ô (by omega) (by omega),Ô (by omega) (by omega)];simp only[Č,Bool.and_true,Bool.and_eq_true,decide_eq_true_eq,Ca,ilt,igt,gt_iff_lt];have:(x.1=y.1∧x.2=y.2)↔x=y:=⟨fun h=>Prod.ext h.1 h.2,fun h=>by rw[h]; exact⟨rfl,rfl⟩⟩;simp only[this]
 (repeat' split)<;>rfl
def aaE (k:Int×Int) (heat:Int×Int):(Int×Int)×(Int×Int) :=
 if 0<cmpP (abI k heat.1) (abI k heat.2) then(abI k heat.2,abI k heat.1) else(abI k heat.1,abI k heat.2)
def ahJ {k heat:Int×Int} (hk:yE k 200000 10000) (hh:l5 heat (-10000) 10000=true):oM k heat=some (aaE k heat):=by
 simp only[l5,Bool.and_eq_true,decide_eq_true_eq] at hh;obtain⟨h1,h2,h3⟩:=hh;have n1 : -10000≤heat.1∧heat.1≤10000:=⟨by omega,by omega⟩;have n2 : -10000≤heat.2∧heat.2≤10000:=⟨by omega,by omega⟩;have r1:yE (heat.1,1) 10000 10000:=⟨XO n1,n1,by simp⟩;have r2:yE (heat.2,1) 10000 10000:=⟨XO n2,n2,by simp⟩;unfold oM vk L1 KW sv sj;rw[abY r1.rat r2.rat,À];have:ieq 0 0=true:=rfl;rw[Ù this,ag7 r1 r2 (by omega) (by omega),À]
 have hc:ile (cmpP (heat.1,1) (heat.2,1)) 0=true:=by
  unfold cmpP;simp only[ile,decide_eq_true_eq,Int.mul_one]
  split
  ·omega
  ·split
   ·omega
   ·rw[if_neg (by omega)]; omega
 rw[hc,À];simp only[Bool.not_true,é];rw[SG hk.i64,hk.rat,À];simp only[Bool.not_true,é];rw[ahd hk n1,À,ahd hk n2,À];simp only[show ine (0:Int) 0=false from rfl,é];rw[ag7 (Qg hk n1) (Qg hk n2) (by omega) (by omega),À];unfold aaE;rw[Č]
 by_cases h:0<cmpP (abI k heat.1) (abI k heat.2)
 ·rw[if_pos h,if_pos (by simpa[igt] using h)]; rfl
 ·rw[if_neg h,if_neg (by simpa[igt] using h)]; rfl
def rateK (s:List (Int×ÿ)) (c:Cmp):Int×Int:=subP (MM s (þ c.2.2.1 c.2.2.2.1)) (MM s (þ c.2.2.2.1 c.2.2.1))
def vF (b:Ď) (c:Cmp):(Int×Int)×(Int×Int):=aaE (rateK (Ŕ b) c) c.2.2.2.2.2.2
def adv {b:Ď} (hs:wu b) {c:Cmp} (hA:c.2.2.1.length≤1000) (hB:c.2.2.2.1.length≤1000)
 (h1:yE (MM (Ŕ b) (þ c.2.2.1 c.2.2.2.1)) 1000 100) (h2:yE (MM (Ŕ b) (þ c.2.2.2.1 c.2.2.1)) 1000 100) (hh:l5 c.2.2.2.2.2.2 (-10000) 10000=true):ug b c=some (vF b c):=by
 unfold ug F3;rw[E4 hs.gauges,À,yi (by omega) (by omega),À,Tm,À,yi (by omega) (by omega),À,Tm,À];unfold vK vl;rw[Sub_ok h1 h2,À,À]
 try dsimp only
 rw[ahJ (Wu h1 h2) hh,À];rfl
def AZ (b:Ď) (c:Cmp):Int×Int :=
 (((c.2.2.1.length-1:Nat):Int)*b.1.1-((c.2.2.2.1.length-1:Nat):Int)*b.1.2,((c.2.2.1.length-1:Nat):Int)*b.1.2-((c.2.2.2.1.length-1:Nat):Int)*b.1.1)
def af0 {b:Ď} {c:Cmp} (hA:c.2.2.1.length≤1000) (hB:c.2.2.2.1.length≤1000) (h1:0≤b.1.1) (h2:b.1.1≤1000000) (h3:0≤b.1.2) (h4:b.1.2≤1000000):yq b c=some (AZ b c):=by
 unfold yq Lg AZ
 have e:∀n:Nat,XS 0 ((n:Int)-1)=((n-1:Nat):Int):=by
  intro n;unfold XS
  split<;>omega
 have bd:∀(n:Nat) (x:Int),n≤1000→0≤x→x≤1000000→0≤((n-1:Nat):Int)*x∧((n-1:Nat):Int)*x≤1000000000:=by
  intro n x hn h0 hx;refine⟨gE (by omega) h0,?_⟩;have:=fP (show((n-1:Nat):Int)≤1000 by omega) hx h0 (by omega);omega
 have b1:=bd _ _ hA h1 h2;have b2:=bd _ _ hA h3 h4;have b3:=bd _ _ hB h1 h2;have b4:=bd _ _ hB h3 h4;simp only[Ñ];rw[Ô (by omega) (by omega),Ô (by omega) (by omega)];simp only[e];rw[Ô (by omega) (by omega),Ô (by omega) (by omega),Ô (by omega) (by omega),Ô (by omega) (by omega),Ô (by omega) (by omega),Ô (by omega) (by omega)]
def ZK {n d:Int} (hd:1≤d) (hn : -4000000000≤n∧n≤4000000000):yp n d=some (n / d):=by
 unfold yp KT
 have z:Ca d 0=false:=by simp[Ca]; omega
 rw[Î z];have t:=Int.mul_tdiv_add_tmod n d
 have b1 : -4000000000≤Int.tdiv n d∧Int.tdiv n d≤4000000000:=by
  have:=Int.natAbs_tdiv_le_natAbs n d;omega
 rw[Ô (by omega) (by omega),Î z,Č]
 by_cases h:Int.tmod n d<0
 ·rw[if_pos (by simpa[ilt] using h),Ô (by omega) (by omega)];congr 1
  have h5 : -d<Int.tmod n d:=by
   have h6:=Int.natAbs_tmod n d;have h7:=Nat.mod_lt n.natAbs (show 0<d.natAbs by omega);omega
  refine(Int.ediv_eq_iff_of_pos (by omega)).2 ⟨?_,?_⟩ |>.symm
  ·rw[Int.sub_mul,gM]; omega
  ·rw[Int.sub_mul,gM (Int.tdiv n d)]; omega
 ·rw[if_neg (by simpa[ilt] using h)];congr 1
  have h5:Int.tmod n d<d:=by
   have h6:=Int.natAbs_tmod n d;have h7:=Nat.mod_lt n.natAbs (show 0<d.natAbs by omega);omega
  refine(Int.ediv_eq_iff_of_pos (by omega)).2 ⟨?_,?_⟩ |>.symm
  ·rw[gM]; omega
  ·rw[gM (Int.tdiv n d)]; omega
def agO {x:Int×Int} (hx:MN x=true):jJ [x]=some 0:=by
 rw[YD]
 ·simp[hx]
 ·intro r hr
  have:MN r=true:=by simp at hr; subst hr; assumption
  have:=((ou r).1 this).2.2.1;exact⟨by omega,by omega⟩
 ·simp
def abr (r:Int×Int):Int:=-(-r.1 / r.2)
def agK {r:Int×Int} (h:MN r=true):Ey r=some (r.1 / r.2,0):=by
 unfold Ey KY;have:=(ou r).1 h;rw[agO h,À];rw[show ine (0:Int) 0=false from rfl,é,ZK (by omega) (by omega),À]
def Gs {n d:Int} (hd:1≤d):(n / d).natAbs≤n.natAbs:=by
 exact Int.natAbs_ediv_le_natAbs n d
def aiv {r:Int×Int} (h:MN r=true):IY r=some (abr r,0):=by
 unfold IY Rg abr;have:=(ou r).1 h;rw[agO h,À];rw[show ine (0:Int) 0=false from rfl,é,Ô (by omega) (by omega),ZK (by omega) (by omega),À];have hb:=Gs (n:=0-r.1) (show 1≤r.2 by omega);rw[Ô (by omega) (by omega),Int.zero_sub,Int.zero_sub]
def wP (b:Ď) (c:Cmp):Int×Int :=
 (c.2.2.2.2.1-c.2.2.2.2.2.1-(AZ b c).2-(vF b c).2.1 / (vF b c).2.2,c.2.2.2.2.1+c.2.2.2.2.2.1-(AZ b c).1-abr (vF b c).1)
structure ū (b:Ď):Prop where
 film:0≤b.1.1∧b.1.1≤b.1.2∧b.1.2≤1000000
 nG:b.2.1.length≤12
 nU:b.2.2.1.length≤40
 nL:b.2.2.2.1.length≤12
 nC:b.2.2.2.2.1.length≤40
 nK:b.2.2.2.2.2.length≤10
 gauge:∀g∈b.2.1,AY g=true
 ids:b.2.1.Pairwise fun a b=>a.1<b.1
 uses:∀u∈b.2.2.1,GH (Ŕ b) u.1 u.2=0
 loans:∀i l,b.2.2.2.1[i]?=some l→RK b (Ŕ b) i l=0
 compares:∀i c,b.2.2.2.2.1[i]?=some c→oO b (Ŕ b) i c=0
 looks:∀u∈b.2.2.2.2.2,GH (Ŕ b) u.1 u.2=0
 nodes:(É b).length≤59
 links:2*(É b).length+2*b.2.2.2.2.1.length≤300
def B6 (b:Ď):mE b=0↔(∀g∈b.2.1,AY g=true)∧b.2.1.Pairwise fun a b=>a.1<b.1:=by
 have h0:Ņ (yl b.2.1) 0 b.2.1=none↔(∀g∈b.2.1,AY g=true)∧b.2.1.Pairwise fun a b=>a.1<b.1:=by
  rw[iZ,←I2 (fun g:ÿ=>g.1) b.2.1];constructor
  ·intro h
   have h1:∀(j:Nat) (a:ÿ),b.2.1[j]?=some a→AY a=true∧ur (fun g:ÿ=>g.1) b.2.1 j a=false:=by
    intro j a ha;have:=h j a ha;rw[Nat.zero_add] at this;unfold yl at this
    split at this
    ·cases this
    ·split at this
     ·cases this
     ·rename_i h1 h2;exact⟨by simpa using h1,by simpa using h2⟩
   refine⟨fun x hx=>?_,fun i a ha=>(h1 i a ha).2⟩;obtain⟨j,hj,rfl⟩:=cM.1 hx;exact(h1 j _ (cw hj)).1
  ·rintro⟨h1,h2⟩ j a ha;rw[di];simp[yl,h1 a (cG ha),h2 j a ha]
 rw[←h0];unfold mE
 cases h:Ņ (yl b.2.1) 0 b.2.1 with
 |none=>simp
 |some e =>
  have:∀(m:List ÿ) (j:Nat) (x:Int),Ņ (yl b.2.1) j m=some x→x≠0:=by
   intro m
   induction m with
   |nil=>intro j x h; cases h
   |cons a m ih =>
    intro j x h;unfold Ņ at h
    cases hp:yl b.2.1 j a with
    |none=>rw[hp] at h; exact ih _ _ h
    |some y =>
     rw[hp] at h;cases h;unfold yl at hp
     split at hp
     ·cases hp; omega
     ·split at hp
      ·cases hp; omega
      ·cases hp
  simp[this _ _ _ h]
def Ģ (b:Ď):ę b=0↔ū b:=by
 unfold ę;constructor
 ·intro h
  split at h
  ·omega
  rename_i h1
  (repeat' split at h)<;>try omega
  ·rename_i hg
   have hg':mE b≠0:=by simpa using hg
   exact(hg' h).elim
  ·rename_i hf;have:=fX hf;rename_i e;simp at this;exact(this h).elim
  ·rename_i hn1 hn2 hn3 hn4 hn5 hg e hf hn6 hn7
   have hg0:mE b=0:=by simpa using hg
   obtain⟨g1,g2⟩:=(B6 b).1 hg0
   have hall:∀x∈qt b (Ŕ b),x=0:=fun x hx=>by
    have:=dU.1 hf x hx;simpa using this
   simp only[qt,cE] at hall
   have hs:l5 b.1 0 1000000=true:=by simpa using h1
   simp only[l5,cA,decide_eq_true_eq] at hs;refine⟨⟨hs.1,hs.2.1,hs.2.2⟩,by omega,by omega,by omega,by omega,by omega,g1,g2,fun u hu=>hall _ (.inl (dj.2 ⟨u,hu,rfl⟩)),fun i l hl=>?_,fun i c hc=>?_,fun u hu=>hall _ (.inr (.inr (.inr (dj.2 ⟨u,hu,rfl⟩)))),by omega,by omega⟩
   ·obtain⟨hi,rfl⟩:=cB.1 hl;exact hall _ (.inr (.inl (List.mem_mapIdx.2 ⟨i,hi,rfl⟩)))
   ·obtain⟨hi,rfl⟩:=cB.1 hc;exact hall _ (.inr (.inr (.inl (List.mem_mapIdx.2 ⟨i,hi,rfl⟩))))
 ·intro h
  have hs:l5 b.1 0 1000000=true:=by simp[l5,h.film.1,h.film.2.1,h.film.2.2]
  have hg:mE b=0:=(B6 b).2 ⟨h.gauge,h.ids⟩
  have hall:(qt b (Ŕ b)).find? (fun e=>e != 0)=none:=by
   rw[dU];intro x hx;simp only[qt,cE,dj,List.mem_mapIdx] at hx
   have:x=0:=by
    rcases hx with⟨u,hu,rfl⟩|⟨i,hi,rfl⟩|⟨i,hi,rfl⟩|⟨u,hu,rfl⟩
    ·exact h.uses u hu
    ·exact h.loans i _ (cw hi)
    ·exact h.compares i _ (cw hi)
    ·exact h.looks u hu
   simp[this]
  have:=h.nG; have:=h.nU; have:=h.nL; have:=h.nC; have:=h.nK; have:=h.nodes; have:=h.links;rw[hs,hg,hall];simp only[dw,cQ,if_false,bne_self_eq_false];rw[if_neg (by omega),if_neg (by omega),if_neg (by omega),if_neg (by omega),if_neg (by omega),if_neg (by omega),if_neg (by omega)]
section
variable {b:Ď}
def jA {l:List Int} (h:wU l=true):l.length≤6:=((Jn l).1 h).2.2
def ū.nums (h:ū b) {c:Cmp} (hc:c∈b.2.2.2.2.1):aaK c=true:=by
 obtain⟨i,hi,rfl⟩:=List.mem_iff_getElem.1 hc;have:=h.compares i _ (List.getElem?_eq_getElem hi);unfold oO at this
 split at this
 ·omega
 ·rename_i h; simpa using h
def ū.pilesOf (h:ū b) {c:Cmp} (hc:c∈b.2.2.2.2.1):wS b (Ŕ b) c=0:=by
 obtain⟨i,hi,rfl⟩:=List.mem_iff_getElem.1 hc;have:=h.compares i _ (List.getElem?_eq_getElem hi);unfold oO at this
 split at this
 ·omega
 ·split at this
  ·omega
  ·exact this
def kH (c:Cmp):aaK c=true↔(1≤c.1∧c.1≤1099511627776)∧(0≤c.2.1∧c.2.1≤20000)∧(-1125899906842624≤c.2.2.2.2.1∧c.2.2.2.2.1≤1125899906842624)∧(0≤c.2.2.2.2.2.1∧c.2.2.2.2.2.1≤1073741824)∧l5 c.2.2.2.2.2.2 (-10000) 10000=true∧wU c.2.2.1=true∧wU c.2.2.2.1=true:=by
 simp[aaK,inP,I0,and_assoc]
def ū.size (h:ū b):wu b:=by
 have h1:=h.nG; have h2:=h.nU; have h3:=h.nL; have h4:=h.nC; have h5:=h.nK;refine⟨by omega,by omega,by omega,by omega,by omega,fun c hc=>?_⟩;have:=(kH c).1 (h.nums hc);have a:=jA this.2.2.2.2.2.1;have b:=jA this.2.2.2.2.2.2;omega
def Pp (g:ÿ):AY g=true↔MN g.2.2.2.2.1=true∧(-1000≤g.2.2.2.2.1.1∧g.2.2.2.2.1.1≤1000)∧g.2.2.2.2.1.2≤100∧(1≤g.1∧g.1≤1099511627776)∧(0≤g.2.1∧g.2.1≤20000)∧(1≤g.2.2.1∧g.2.2.1≤1125899906842624)∧(-1073741824≤g.2.2.2.1.1∧g.2.2.2.1.1≤g.2.2.2.1.2∧g.2.2.2.1.2≤1073741824)∧(0≤g.2.2.2.2.2∧g.2.2.2.2.2≤1048576):=by
 simp[AY,inP,I0,l5,and_assoc]
def ig {id:Int} {g:ÿ} (h:ö b id=some g):g∈b.2.1∧g.1=id:=by
 unfold ö at h;exact⟨List.mem_of_find?_eq_some h,by simpa using List.find?_some h⟩
def vG (hi:b.2.1.Pairwise fun a b=>a.1<b.1) {g:ÿ} (hg:g∈b.2.1):ö b g.1=some g:=by
 unfold ö
 induction hl:b.2.1 generalizing b with
 |nil=>rw[hl] at hg; cases hg
 |cons a t ih =>
  rw[hl] at hg hi;rw[dk] at hi;rw[fj];rcases cF.1 hg with rfl|hg
  ·simp
  ·have h1:=hi.1 g hg
   have:(a.1==g.1)=false:=by simp; omega
   rw[this];have:=ih (b:=(b.1,t,b.2.2)) hi.2 hg rfl;exact this
def Fl (h:ū b) {id day:Int} (hm:mY (Ŕ b) id day=0):∃g,ö b id=some g∧g.2.1≤day:=by
 unfold mY at hm;rw[yL h.ids] at hm
 split at hm
 ·rename_i g hg
  split at hm
  ·omega
  ·exact⟨g,hg,by omega⟩
 ·omega
def JJ (s:List (Int×ÿ)) (id day:Int):mY s id day=0∨mY s id day=4∨mY s id day=5:=by
 unfold mY
 split
 ·split<;>simp
 ·simp
def ū.pile (h:ū b) {c:Cmp} (hc:c∈b.2.2.2.2.1) {x:Int} (hx:x∈c.2.2.1++c.2.2.2.1):(∃g,ö b x=some g∧g.2.1≤c.2.1)∧lK b x c.2.1=none:=by
 have hp:=h.pilesOf hc;unfold wS at hp
 split at hp
 ·omega
 rename_i h5
 split at hp
 ·omega
 rename_i h4
 split at hp
 ·omega
 rename_i h9;have a5:=(dG.1 (dR.2 h5)) x hx;have a4:=(dG.1 (dR.2 h4)) x hx;have a9:=(dG.1 (dR.2 h9)) x hx;simp at a5 a4 a9;refine⟨Fl h ?_,a9⟩;rcases JJ (Ŕ b) x c.2.1 with h0|h0|h0
 ·exact h0
 ·exact(a4 h0).elim
 ·exact(a5 h0).elim
def ū.lefts (h:ū b) {c:Cmp} (hc:c∈b.2.2.2.2.1):(þ c.2.2.1 c.2.2.2.1).length≤1∧(þ c.2.2.2.1 c.2.2.1).length≤1∧(þ c.2.2.1 c.2.2.2.1).length+(þ c.2.2.2.1 c.2.2.1).length≠0:=by
 have hp:=h.pilesOf hc;unfold wS at hp
 (repeat' split at hp)<;>first|omega|exact⟨by omega,by omega,by omega⟩
def nN {a c:List Int} {x:Int}:x∈þ a c↔x∈a∧x∉c:=by
 simp[þ]
def ū.rate (h:ū b) {p:List Int} (hp:∀x∈p,∃g,ö b x=some g):yE (MM (Ŕ b) p) 1000 100:=by
 unfold MM
 cases p with
 |nil =>
  have:yE (0,1) 1000 100:=⟨by decide,by decide,by decide⟩;exact this
 |cons x t =>
  obtain⟨g,hg⟩:=hp x (by simp)
  try dsimp only
  rw[yL h.ids,hg];have:=(Pp g).1 (h.gauge g (ig hg).1);exact⟨this.1,this.2.1,this.2.2.1⟩
def ū.rates (h:ū b) {c:Cmp} (hc:c∈b.2.2.2.2.1):yE (MM (Ŕ b) (þ c.2.2.1 c.2.2.2.1)) 1000 100∧yE (MM (Ŕ b) (þ c.2.2.2.1 c.2.2.1)) 1000 100:=by
 constructor
 ·exact h.rate fun x hx=>by
   obtain⟨⟨g,hg,_⟩,_⟩:=h.pile hc (dt _ (nN.1 hx).1);exact⟨g,hg⟩
 ·exact h.rate fun x hx=>by
   obtain⟨⟨g,hg,_⟩,_⟩:=h.pile hc (dm _ (nN.1 hx).1);exact⟨g,hg⟩
def ū.growth (h:ū b) {c:Cmp} (hc:c∈b.2.2.2.2.1):ug b c=some (vF b c):=by
 obtain⟨r1,r2⟩:=h.rates hc;have hn:=(kH c).1 (h.nums hc);have a:=jA hn.2.2.2.2.2.1;have b:=jA hn.2.2.2.2.2.2;exact adv h.size (by omega) (by omega) r1 r2 hn.2.2.2.2.1
def ū.films (h:ū b) {c:Cmp} (hA:c.2.2.1.length≤1000) (hB:c.2.2.2.1.length≤1000):yq b c=some (AZ b c):=by
 have:=h.film;exact af0 hA hB (by omega) (by omega) (by omega) (by omega)
def Zg {k heat:Int×Int} (hk:yE k 200000 10000) (hh:l5 heat (-10000) 10000=true):yE (aaE k heat).1 2000000000 10000∧yE (aaE k heat).2 2000000000 10000:=by
 simp only[l5,Bool.and_eq_true,decide_eq_true_eq] at hh;have r1:=Qg hk (n:=heat.1) ⟨by omega,by omega⟩;have r2:=Qg hk (n:=heat.2) ⟨by omega,by omega⟩;unfold aaE
 split
 ·exact⟨r2,r1⟩
 ·exact⟨r1,r2⟩
def LU {c:Cmp} (hA:c.2.2.1.length≤1000) (hB:c.2.2.2.1.length≤1000) (h1:0≤b.1.1) (h2:b.1.1≤1000000) (h3:0≤b.1.2) (h4:b.1.2≤1000000) :
 (-1000000000≤(AZ b c).1∧(AZ b c).1≤1000000000)∧(-1000000000≤(AZ b c).2∧(AZ b c).2≤1000000000):=by
 have bd:∀(n:Nat) (x:Int),n≤1000→0≤x→x≤1000000→0≤((n-1:Nat):Int)*x∧((n-1:Nat):Int)*x≤1000000000:=by
  intro n x hn h0 hx;refine⟨gE (by omega) h0,?_⟩;have:=fP (show((n-1:Nat):Int)≤1000 by omega) hx h0 (by omega);omega
 have b1:=bd _ _ hA h1 h2;have b2:=bd _ _ hA h3 h4;have b3:=bd _ _ hB h1 h2;have b4:=bd _ _ hB h3 h4;unfold AZ
 try dsimp only
 omega
def LQ {r:Int×Int} (h:yE r 2000000000 10000) : -2000000000≤r.1 / r.2∧r.1 / r.2≤2000000000:=by
 have:=Gs (n:=r.1) h.pos;have:=h.num;omega
def PF {r:Int×Int} (h:yE r 2000000000 10000) : -2000000000≤abr r∧abr r≤2000000000:=by
 have:=Gs (n:=-r.1) h.pos;have:=h.num;unfold abr;omega
def ū.says (h:ū b) {c:Cmp} (hc:c∈b.2.2.2.2.1):zi b c=some (wP b c):=by
 obtain⟨r1,r2⟩:=h.rates hc;have hn:=(kH c).1 (h.nums hc);have ha:=jA hn.2.2.2.2.2.1;have hb:=jA hn.2.2.2.2.2.2;have hf:=h.film;obtain⟨g1,g2⟩:=Zg (Wu r1 r2) hn.2.2.2.2.1;have fb:=LU (b:=b) (c:=c) (by omega) (by omega) (by omega) (by omega) (by omega) (by omega);have q1:yE (vF b c).1 2000000000 10000:=g1;have q2:yE (vF b c).2 2000000000 10000:=g2;have c1:=PF q1;have c2:=LQ q2;unfold zi Ri wP;rw[h.growth hc,À,h.films (by omega) (by omega),À,agK q2.rat,À,aiv q1.rat,À]
 try dsimp only
 have n3:=hn.2.2.1;have n4:=hn.2.2.2.1;rw[Ô (by omega) (by omega),Ô (by omega) (by omega),Ô (by omega) (by omega),Ô (by omega) (by omega),Ô (by omega) (by omega),Ô (by omega) (by omega)]
end
def ė (l:MJ) (f t:Int):Int:=min l.2.1.2 (t-1)-max l.2.1.1 f+1
def ĵ (id f t:Int):List MJ→Int
 |[]=>0
 |l::r=>(if l.1=id∧0<ė l f t then ė l f t*l.2.2 else 0)+ĵ id f t r
def yf (id f t:Int):∀(x y:List MJ),ĵ id f t (x++y)=ĵ id f t x+ĵ id f t y
 |[],y=>by simp[ĵ]
 |l::r,y=>by
  simp only[eZ,ĵ,yf id f t r y];omega
def iG (b:Ď) (id f t:Int):List Int:=(b.2.2.1.filter fun u=>u.1==id&&inP u.2 f (t-1)).map fun u=>u.2
def lg (b:Ď) (g:ÿ) (f t:Int):Int:=ĵ g.1 f t b.2.2.2.1+(We (iG b g.1 f t)).length*g.2.2.2.2.2
def XR (a c:Int):ZA a c=min a c:=by unfold ZA; split<;>omega
def ads (a c:Int):XS a c=max a c:=by unfold XS; split<;>omega
def tT {b:Ď} (h:ū b) {l:MJ} (hl:l∈b.2.2.2.1):(0≤l.2.1.1∧l.2.1.1≤l.2.1.2∧l.2.1.2≤20000)∧(0≤l.2.2∧l.2.2≤1048576):=by
 obtain⟨i,hi,rfl⟩:=List.mem_iff_getElem.1 hl;have:=h.loans i _ (List.getElem?_eq_getElem hi);unfold RK at this
 split at this
 ·omega
 rename_i h1
 split at this
 ·omega
 rename_i h2;simp only[dS,Bool.not_eq_false,l5,inP,cA,decide_eq_true_eq] at h1 h2;exact⟨h1,h2⟩
def Pe {l:MJ} (h:(0≤l.2.1.1∧l.2.1.1≤l.2.1.2∧l.2.1.2≤20000)∧(0≤l.2.2∧l.2.2≤1048576)) {f t:Int} (hf:0≤f) (hd:0<ė l f t):0≤ė l f t*l.2.2∧ė l f t*l.2.2≤20001*1048576:=by
 refine⟨Int.mul_nonneg (by omega) h.2.1,Int.mul_le_mul ?_ h.2.2 h.2.1 (by omega)⟩;unfold ė;omega
def sn {id f t:Int} (hf:0≤f):∀{x:List MJ},(∀l∈x,(0≤l.2.1.1∧l.2.1.1≤l.2.1.2∧l.2.1.2≤20000)∧(0≤l.2.2∧l.2.2≤1048576))→0≤ĵ id f t x∧ĵ id f t x≤x.length*(20001*1048576)
 |[],_=>by simp[ĵ]
 |l::r,h=>by
  have ih:=sn (id:=id) (t:=t) hf (x:=r) fun l hl=>h l (by simp[hl]);simp only[ĵ,cN,gg,f5,gn]
  split
  ·rename_i hc;have:=Pe (h l (by simp)) hf hc.2;omega
  ·omega
def ahQ {b:Ď} (h:ū b) {g:ÿ} (hg:0≤g.2.2.2.2.2∧g.2.2.2.2.2≤1048576) {f t:Int} (hf:0≤f∧f≤100000) (ht:0≤t∧t≤100000):zj b g f t=some (lg b g f t):=by
 have hL:=h.nL;have hU:=h.nU
 have hlb:∀i,0≤ĵ g.1 f t (b.2.2.2.1.take i)∧ĵ g.1 f t (b.2.2.2.1.take i)≤12*(20001*1048576):=by
  intro i;have h1:=sn (id:=g.1) (t:=t) hf.1 (x:=b.2.2.2.1.take i) fun l hl=>tT h (fL hl);have h2:((b.2.2.2.1.take i).length:Int)*(20001*1048576)≤12*(20001*1048576):=fp (by rw[cT]; omega) (by omega);omega
 unfold zj Rm;refine Ě (fun x:Int×Int=>∃i:Nat,i≤b.2.2.2.1.length∧x=(ĵ g.1 f t (b.2.2.2.1.take i),(i:Int))) (fun x=>b.2.2.2.1.length-x.2.toNat) ?_ ⟨0,by omega,rfl⟩;rintro x ⟨i,hi,rfl⟩;rcases Nat.lt_or_ge i b.2.2.2.1.length with hlt|hge
 ·have hl:b.2.2.2.1[i]?=some b.2.2.2.1[i]:=cw hlt;have hz:=tT h (cG hl);refine .inr ⟨(ĵ g.1 f t (b.2.2.2.1.take (i+1)),(i:Int)+1),⟨i+1,hlt,by simp⟩,by simp; omega,fun kn=>?_⟩
  try dsimp only
  unfold vu;have b1:=hlb i;have b2:=hlb (i+1)
  have e1:ĵ g.1 f t (b.2.2.2.1.take (i+1))=ĵ g.1 f t (b.2.2.2.1.take i)+(if b.2.2.2.1[i].1=g.1∧0<ė b.2.2.2.1[i] f t then ė b.2.2.2.1[i] f t*b.2.2.2.1[i].2.2 else 0):=by
   rw[take_succ hl,yf]; simp[ĵ]
  rw[Ó hlt,È hl,Ô (by omega) (by omega),XR,ads,Ô (by omega) (by omega),Ô (by omega) (by omega)];rw[show min b.2.2.2.1[i].2.1.2 (t-1)-max b.2.2.2.1[i].2.1.1 f+1=ė b.2.2.2.1[i] f t from rfl,Č]
  by_cases hid:b.2.2.2.1[i].1=g.1
  ·rw[if_pos (by simpa[ieq] using hid),Č]
   by_cases hd:0<ė b.2.2.2.1[i] f t
   ·have lb:=Pe hz hf.1 hd;rw[if_pos ⟨hid,hd⟩] at e1;rw[if_pos (by simpa[igt] using hd),Ô (by omega) (by omega),Ô (by omega) (by omega),Í hlt (by omega),e1]
   ·rw[if_neg (fun hc=>hd hc.2)] at e1;rw[if_neg (by simpa[igt] using hd),Í hlt (by omega),e1,gA]
  ·rw[if_neg (fun hc=>hid hc.1)] at e1;rw[if_neg (by simpa[ieq] using hid),Í hlt (by omega),e1,gA]
 ·refine .inl fun kn=>?_
  have:i=b.2.2.2.1.length:=by omega
  subst this
  try dsimp only
  unfold vu;rw[ß,List.take_length]
  have hud:∀x:List (Int×Int),x.length≤40→((x.filter fun u=>u.1==g.1&&inP u.2 f (t-1)).map fun u=>u.2).length≤40:=by
   intro x hx;rw[dl];exact cR (dX _ _) hx
  refine ĩ b.2.2.1 (fun i=>((b.2.2.1.take i).filter fun u=>u.1==g.1&&inP u.2 f (t-1)).map fun u=>u.2) _ rfl (fun i u hi hu kn'=>?_) (fun kn'=>?_)
  ·try dsimp only
   unfold vt;have hx:=hud (b.2.2.1.take i) (by rw[List.length_take]; omega);rw[Ó hi,È hu,Ô (by omega) (by omega),Κ,À,Ø (by simp only[List.length_singleton]; omega),Am.iff_true,Í hi (by omega),Í hi (by omega),take_succ hu,List.filter_append,List.map_append]
   cases h1:(u.1==g.1) with
   |false =>
    have:ieq u.1 g.1=false:=h1;simp only[this,é,d9,h1,Bool.false_and,cQ,if_false,fm,fo,cW]
   |true =>
    have:ieq u.1 g.1=true:=h1;rw[this]
    cases h2:inP u.2 f (t-1) with
    |false=>simp only[oH,é,d9,h1,h2,dY,cQ,if_false,fm,fo,cW]
    |true=>simp only[oH,d9,h1,h2,dY,if_true,fm,fo,eo]
  ·try dsimp only
   unfold vt;rw[ß,List.take_length];rw[show((b.2.2.1.filter fun u=>u.1==g.1&&inP u.2 f (t-1)).map fun u=>u.2)=iG b g.1 f t from rfl];have h40:(iG b g.1 f t).length≤40:=hud _ hU
   have hc40:(We (iG b g.1 f t)).length≤40:=by
    have:=IB (iG b g.1 f t);omega
   have hm:0≤((We (iG b g.1 f t)).length:Int)*g.2.2.2.2.2∧((We (iG b g.1 f t)).length:Int)*g.2.2.2.2.2≤40*1048576 :=
    ⟨gE (by omega) hg.1,fP (by omega) hg.2 hg.1 (by omega)⟩
   have b1:=hlb b.2.2.2.1.length;rw[List.take_length] at b1;dsimp only;rw[Ø (by omega),Am.iff_true,Ø (by rw[S9]; omega),Am.iff_true,acm,Ñ,Ô (by omega) (by omega),Ô (by omega) (by omega)];rfl
def Ő (b:Ď) (g:ÿ):List Lk :=
 [(0,atP (É b) [g.1] g.2.1,g.2.2.1+g.2.2.2.1.2),(atP (É b) [g.1] g.2.1,0,-(g.2.2.1+g.2.2.2.1.1))] ++
 (List.range ((ã b g).length-1)).flatMap fun(k:Nat)=>[(atP (É b) [g.1] g.2.1+k,atP (É b) [g.1] g.2.1+k+1,0),(atP (É b) [g.1] g.2.1+k+1,atP (É b) [g.1] g.2.1+k,lg b g ((ã b g)[k]?.getD 0) ((ã b g)[k+1]?.getD 0))]
def cx (b:Ď) (c:Cmp):Int:=atP (É b) (þ c.2.2.1 c.2.2.2.1) c.2.1
def cy (b:Ď) (c:Cmp):Int:=atP (É b) (þ c.2.2.2.1 c.2.2.1) c.2.1
def i9 (b:Ď) (c:Cmp):List Lk:=[(cy b c,cx b c,(wP b c).2),(cx b c,cy b c,-(wP b c).1)]
def ķ (b:Ď):List Lk:=b.2.1.flatMap (Ő b)++b.2.2.2.2.1.flatMap (i9 b)
def ic (b:Ď) (i:Nat) (g:ÿ):List (Int×Int):=[(1,(i:Int)),(1,(i:Int))]++(List.range ((ã b g).length-1)).flatMap fun _=>[(2,(i:Int)),(2,(i:Int))]
def Iz (b:Ď):List (Int×Int):=(b.2.1.mapIdx (ic b)).flatten++(b.2.2.2.2.1.mapIdx fun i _=>[(3,(i:Int)),(3,(i:Int))]).flatten
section
variable {b:Ď}
def abZ (h:ū b) {id day:Int} (hu:GH (Ŕ b) id day=0):(0≤day∧day≤20000)∧∃g,ö b id=some g∧g.2.1≤day:=by
 unfold GH at hu
 split at hu
 ·omega
 ·rename_i hd;simp only[dS,Bool.not_eq_false,I0,inP,cA,decide_eq_true_eq] at hd;exact⟨hd,Fl h hu⟩
def Ž {g:ÿ} {d:Int}:d∈ã b g↔d=g.2.1∨(∃c∈b.2.2.2.2.1,(c.2.2.1.contains g.1)≠(c.2.2.2.1.contains g.1)∧c.2.1=d)∨(∃n∈b.2.2.2.2.2,n.1=g.1∧n.2=d):=by
 unfold ã;rw[Cq,VB];simp only[List.mem_append,List.mem_singleton,List.mem_map,List.mem_filter];constructor
 ·rintro((h|⟨c,⟨h1,h2⟩,h3⟩)|⟨n,⟨h1,h2⟩,h3⟩)
  ·exact .inl h
  ·exact .inr (.inl ⟨c,h1,by simpa using h2,h3⟩)
  ·exact .inr (.inr ⟨n,h1,by simpa using h2,h3⟩)
 ·rintro(h|⟨c,h1,h2,h3⟩|⟨n,h1,h2,h3⟩)
  ·exact .inl (.inl h)
  ·exact .inl (.inr ⟨c,⟨h1,by simpa using h2⟩,h3⟩)
  ·exact .inr ⟨n,⟨h1,by simpa using h2⟩,h3⟩
def ū.gaugeR (h:ū b) {g:ÿ} (hg:g∈b.2.1):MN g.2.2.2.2.1=true∧(-1000≤g.2.2.2.2.1.1∧g.2.2.2.2.1.1≤1000)∧g.2.2.2.2.1.2≤100∧(1≤g.1∧g.1≤1099511627776)∧(0≤g.2.1∧g.2.1≤20000)∧(1≤g.2.2.1∧g.2.2.1≤1125899906842624)∧(-1073741824≤g.2.2.2.1.1∧g.2.2.2.1.1≤g.2.2.2.1.2∧g.2.2.2.1.2≤1073741824)∧(0≤g.2.2.2.2.2∧g.2.2.2.2.2≤1048576):=(Pp g).1 (h.gauge g hg)
def ū.day (h:ū b) {g:ÿ} (hg:g∈b.2.1) {d:Int} (hd:d∈ã b g):g.2.1≤d∧0≤d∧d≤20000:=by
 have hr:=h.gaugeR hg;have hgo:=vG h.ids hg;rcases Ž.1 hd with rfl|⟨c,hc,h1,rfl⟩|⟨n,hn,h1,rfl⟩
 ·have:=hr.2.2.2.2.1; omega
 ·have hn:=(kH c).1 (h.nums hc)
  have hx:g.1∈c.2.2.1++c.2.2.2.1:=by
   rw[cE]
   by_cases h2:g.1∈c.2.2.1
   ·exact .inl h2
   ·refine .inr ?_
    have e1:c.2.2.1.contains g.1=false:=by simpa using h2
    rw[e1] at h1
    have:c.2.2.2.1.contains g.1=true:=by cases hh:c.2.2.2.1.contains g.1<;>simp_all
    simpa using this
  obtain⟨⟨g',h3,h4⟩,_⟩:=h.pile hc hx;rw[hgo] at h3; cases h3;have:=hn.2.1;omega
 ·obtain⟨h2,g',h3,h4⟩:=abZ h (h.looks n hn);rw[h1,hgo] at h3; cases h3;omega
def rQ (g:ÿ):g.2.1∈ã b g:=Ž.2 (.inl rfl)
def Sg (h:ū b) {g:ÿ} (hg:g∈b.2.1):(ã b g).length≤59:=by
 have h1:∀l:List ÿ,g∈l→(ã b g).length≤(l.flatMap fun g=>(ã b g).map fun d=>((g.1,d):Int×Int)).length:=by
  intro l
  induction l with
  |nil=>intro hg; cases hg
  |cons a t ih =>
   intro hg;rw[dz,cD,dl];rcases cF.1 hg with rfl|hg
   ·omega
   ·have:=ih hg; omega
 have:=h1 b.2.1 hg;have:=h.nodes;unfold É at this;omega
def aeM {p:List Int} {d:Int}:0≤atP (É b) p d∧atP (É b) p d≤(É b).length:=by
 unfold atP
 cases p with
 |nil=>simp
 |cons x t =>
  try dsimp only
  cases h:jx (É b) x d with
  |none=>simp
  |some j=>have:=(km h).1; dsimp only; omega
def Je (h:ū b) {c:Cmp} (hc:c∈b.2.2.2.2.1):(-1125904000000000≤(wP b c).1∧(wP b c).1≤1125904000000000)∧(-1125904000000000≤(wP b c).2∧(wP b c).2≤1125904000000000):=by
 obtain⟨r1,r2⟩:=h.rates hc;have hn:=(kH c).1 (h.nums hc);have ha:=jA hn.2.2.2.2.2.1;have hb:=jA hn.2.2.2.2.2.2;have hf:=h.film;obtain⟨g1,g2⟩:=Zg (Wu r1 r2) hn.2.2.2.2.1;have fb:=LU (b:=b) (c:=c) (by omega) (by omega) (by omega) (by omega) (by omega) (by omega);have q1:yE (vF b c).1 2000000000 10000:=g1;have q2:yE (vF b c).2 2000000000 10000:=g2;have c1:=PF q1;have c2:=LQ q2;have n3:=hn.2.2.1;have n4:=hn.2.2.2.1;unfold wP
 try dsimp only
 omega
def vB (h:ū b) {g:ÿ} (hg:g∈b.2.1) {f t:Int} (hf:0≤f):0≤lg b g f t∧lg b g f t≤12*(20001*1048576)+40*1048576:=by
 have hr:=(h.gaugeR hg).2.2.2.2.2.2.2;have h1:=sn (id:=g.1) (t:=t) hf (x:=b.2.2.2.1) fun l hl=>tT h hl;have h2:(b.2.2.2.1.length:Int)*(20001*1048576)≤12*(20001*1048576):=fp (by have:=h.nL; omega) (by omega)
 have h3:(iG b g.1 f t).length≤40:=by
  unfold iG;rw[List.length_map];exact Nat.le_trans (List.length_filter_le _ _) h.nU
 have h4:=IB (iG b g.1 f t)
 have hm:0≤((We (iG b g.1 f t)).length:Int)*g.2.2.2.2.2∧((We (iG b g.1 f t)).length:Int)*g.2.2.2.2.2≤40*1048576 :=
  ⟨gE (by omega) hr.1,fP (by omega) hr.2 hr.1 (by omega)⟩
 unfold lg;omega
end
def uH {α β:Type} (f:Nat→α→β) {l:List α} {i:Nat} {a:α} (h:l[i]?=some a):(l.take (i+1)).mapIdx f=(l.take i).mapIdx f++[f i a]:=by
 have hi:i<l.length:=(cB.1 h).1
 have:(l.take i).length=i:=by rw[cT]; omega
 rw[take_succ h,List.mapIdx_append];simp[this]
def E6 {α:Type} (f:Nat→List α) (j:Nat):(List.range (j+1)).flatMap f=(List.range j).flatMap f++f j:=by
 rw[fH,fB]; simp
def pl {α:Type} (f:Nat→List α) (n:Nat) (h:∀k,(f k).length=2):((List.range n).flatMap f).length=2*n:=by
 induction n with
 |zero=>rfl
 |succ n ih=>rw[E6,cD,ih,h]; omega
set_option maxHeartbeats 2000000 in
def Zn {b:Ď} (h:ū b):Ez b=some (b,É b,(((É b).length:Int)+1,ķ b),Iz b):=by
 unfold Ez Rl;have hN:=h.nodes;have hG:=h.nG;have hC:=h.nC;rw[Qc h.size,À,Ñ,Ô (by omega) (by omega)]
 -- lengths of what comes
 have gl:∀g∈b.2.1,(Ő b g).length≤120∧∀i,(ic b i g).length≤120:=by
  intro g hg;have:=Sg h hg;constructor
  ·unfold Ő;rw[List.length_append,pl _ _ (fun _=>rfl)];simp only[List.length_cons,List.length_nil]; omega
  ·intro i;unfold ic;rw[List.length_append,pl _ _ (fun _=>rfl)];simp only[List.length_cons,List.length_nil]; omega
 have gls:∀i,((b.2.1.take i).flatMap (Ő b)).length≤1440∧(((b.2.1.take i).mapIdx (ic b)).flatten).length≤1440:=by
  intro i
  induction i with
  |zero=>simp
  |succ i ih =>
   have key:∀i,i≤b.2.1.length→((b.2.1.take i).flatMap (Ő b)).length≤i*120∧(((b.2.1.take i).mapIdx (ic b)).flatten).length≤i*120:=by
    intro i
    induction i with
    |zero=>intro _; simp
    |succ i ih =>
     intro hi;have ih:=ih (by omega);have hg:b.2.1[i]?=some b.2.1[i]:=cw hi;have h2:=gl _ (cG hg);have h3:=h2.2 i;rw[uH _ hg,take_succ hg,fB,List.flatten_append,cD,cD];simp only[dz,List.flatMap_nil,cW,List.flatten_cons,List.flatten_nil];omega
   rcases cV b.2.1.length (i+1) with h1|h1
   ·rw[dT (by omega)];have:=key b.2.1.length (cz _);rw[fE] at this;omega
   ·have:=key (i+1) h1;omega
 refine ĩ b.2.1 (fun i=>((b.2.1.take i).flatMap (Ő b),((b.2.1.take i).mapIdx (ic b)).flatten)) _ rfl (fun i g hi hg kn=>?_) (fun kn=>?_)
 ·try dsimp only
  unfold vr;have hgm:=List.mem_of_getElem? hg;have hr:=h.gaugeR hgm;have hd:=Sg h hgm;have hls:=gls i;have hat:=aeM (b:=b) (p:=[g.1]) (d:=g.2.1);rw[Ó hi,È hg];rw[show oN ((b.1.1,b.1.2),b.2.1,b.2.2.1,b.2.2.2.1,b.2.2.2.2.1,b.2.2.2.2.2) g=oN b g from rfl,adZ h.size,À];rw[ain _ _ _ (by dsimp only; omega),À]
  try dsimp only
  have r1:=hr.2.2.2.2.2.1;have r2:=hr.2.2.2.2.2.2.1;rw[Ô (by omega) (by omega),Ô (by omega) (by omega),Ô (by omega) (by omega),Ø (by simp only[cN,dN]; omega),Am.iff_true,Ø (by simp only[cN,dN]; omega),Am.iff_true]
  refine Ě (fun x:Int×List Lk×List (Int×Int)=>∃j:Nat,j+1≤(ã b g).length∧x.1=(j:Int)+1 ∧
   x.2.1=(b.2.1.take i).flatMap (Ő b)++([(0,atP (É b) [g.1] g.2.1,g.2.2.1+g.2.2.2.1.2),(atP (É b) [g.1] g.2.1,0,-(g.2.2.1+g.2.2.2.1.1))] ++
    (List.range j).flatMap fun(k:Nat)=>[(atP (É b) [g.1] g.2.1+k,atP (É b) [g.1] g.2.1+k+1,0),(atP (É b) [g.1] g.2.1+k+1,atP (É b) [g.1] g.2.1+k,lg b g ((ã b g)[k]?.getD 0) ((ã b g)[k+1]?.getD 0))]) ∧
   x.2.2=((b.2.1.take i).mapIdx (ic b)).flatten++([(1,(i:Int)),(1,(i:Int))]++(List.range j).flatMap fun _=>[(2,(i:Int)),(2,(i:Int))])) (fun x=>(ã b g).length-x.1.toNat) ?_
   ⟨0,List.length_pos_of_mem (rQ g),rfl,by simp,by simp⟩
  rintro⟨x1,ls,ss⟩ ⟨j,hj,e1,e2,e3⟩;dsimp only at e1 e2 e3 ⊢;subst e1
  have hlls:ls.length≤1562:=by
   rw[e2,cD,cD,pl _ _ (fun _=>rfl)];simp only[cN,dN]; omega
  have hlss:ss.length≤1562:=by
   rw[e3,cD,cD,pl _ _ (fun _=>rfl)];simp only[cN,dN]; omega
  rcases cV (j+1) (ã b g).length with hlt|hge
  ·refine .inr ⟨((j:Int)+1+1,_,_),⟨j+1,hlt,by push_cast; rfl,rfl,rfl⟩,by dsimp only; omega,fun kn'=>?_⟩
   try dsimp only
   unfold vq
   have g1:(ã b g)[j]?=some ((ã b g)[j]?.getD 0):=by rw[cw (by omega)]; rfl
   have g2:(ã b g)[j+1]?=some ((ã b g)[j+1]?.getD 0):=by rw[cw hlt]; rfl
   have d1:=h.day hgm (cG g1);have d2:=h.day hgm (cG g2);have lb:=vB h hgm (t:=(ã b g)[j+1]?.getD 0) d1.2.1
   have ec:((j:Int)+1)=((j+1:Nat):Int):=by push_cast; rfl
   rw[ec,Ó hlt,Ô (by omega) (by omega),Ô (by omega) (by omega),Ô (by omega) (by omega),Ô (by omega) (by omega)];rw[show(((j+1:Nat):Int)-1)=((j:Nat):Int) by omega,È g1,È g2];rw[show zj ((b.1.1,b.1.2),b.2.1,b.2.2.1,b.2.2.2.1,b.2.2.2.2.1,b.2.2.2.2.2) (g.1,g.2.1,g.2.2.1,(g.2.2.2.1.1,g.2.2.2.1.2),(g.2.2.2.2.1.1,g.2.2.2.2.1.2),g.2.2.2.2.2) ((ã b g)[j]?.getD 0) ((ã b g)[j+1]?.getD 0)=zj b g ((ã b g)[j]?.getD 0) ((ã b g)[j+1]?.getD 0) from rfl];rw[ahQ h hr.2.2.2.2.2.2.2 ⟨by omega,by omega⟩ ⟨by omega,by omega⟩,À,Ô (by omega) (by omega),Ô (by omega) (by omega),Ø (by simp only[cN,dN]; omega),Am.iff_true,Ø (by simp only[cN,dN]; omega),Am.iff_true,Í hlt (by omega)];rw[E6,E6,e2,e3]
   have a1:atP (É b) [g.1] g.2.1+((j+1:Nat):Int)-1=atP (É b) [g.1] g.2.1+(j:Int):=by push_cast; omega
   have a2:atP (É b) [g.1] g.2.1+((j+1:Nat):Int)=atP (É b) [g.1] g.2.1+(j:Int)+1:=by push_cast; omega
   have a3:0-(0-lg b g ((ã b g)[j]?.getD 0) ((ã b g)[j+1]?.getD 0))=lg b g ((ã b g)[j]?.getD 0) ((ã b g)[j+1]?.getD 0):=by omega
   rw[a1,a2,a3];simp only[cJ]
  ·refine .inl fun kn'=>?_
   have hje:j+1=(ã b g).length:=by omega
   unfold vq;rw[show((j:Int)+1)=(((ã b g).length:Nat):Int) by rw[←hje]; push_cast; rfl,ß];dsimp only;rw[Í hi (by omega)];rw[uH _ hg,take_succ hg,List.flatMap_append,List.flatten_append,e2,e3,show j=(ã b g).length-1 by omega];simp only[List.flatMap_cons,List.flatMap_nil,List.append_nil,List.flatten_cons,List.flatten_nil];rfl
 ·try dsimp only
  unfold vr;rw[ß,List.take_length];have hls:=gls b.2.1.length;rw[List.take_length] at hls
  have cl:∀i,i≤b.2.2.2.2.1.length→((b.2.2.2.2.1.take i).flatMap (i9 b)).length=2*i∧(((b.2.2.2.2.1.take i).mapIdx fun i _=>[((3:Int),(i:Int)),((3:Int),(i:Int))]).flatten).length=2*i:=by
   intro i
   induction i with
   |zero=>intro _; simp
   |succ i ih =>
    intro hi;have ih:=ih (by omega);have hg:b.2.2.2.2.1[i]?=some b.2.2.2.2.1[i]:=cw hi;rw[uH _ hg,take_succ hg,fB,List.flatten_append,cD,cD];simp only[dz,List.flatMap_nil,cW,List.flatten_cons,List.flatten_nil,i9,cN,dN];omega
  refine ĩ b.2.2.2.2.1 (fun i=>(b.2.1.flatMap (Ő b)++(b.2.2.2.2.1.take i).flatMap (i9 b),(b.2.1.mapIdx (ic b)).flatten++((b.2.2.2.2.1.take i).mapIdx fun i _=>[((3:Int),(i:Int)),((3:Int),(i:Int))]).flatten)) _ (by simp) (fun i c hi hc kn'=>?_) (fun kn'=>?_)
  ·try dsimp only
   unfold vp;have hcm:=List.mem_of_getElem? hc;have hn:=(kH c).1 (h.nums hcm);have ha:=jA hn.2.2.2.2.2.1;have hb:=jA hn.2.2.2.2.2.2;have sb:=Je h hcm;have c1:=cl i (by omega);rw[Ó hi,È hc,yi (by omega) (by omega),À,ain _ _ _ (by dsimp only; omega),À,yi (by omega) (by omega),À,ain _ _ _ (by dsimp only; omega),À];rw[show zi ((b.1.1,b.1.2),b.2.1,b.2.2.1,b.2.2.2.1,b.2.2.2.2.1,b.2.2.2.2.2) c=zi b c from rfl,h.says hcm,À];rw[Ô (by omega) (by omega),Ø (by simp only[List.length_append,List.length_cons,List.length_nil]; omega),Am.iff_true,Ø (by simp only[List.length_append,List.length_cons,List.length_nil]; omega),Am.iff_true,Í hi (by omega),uH _ hc,take_succ hc,List.flatMap_append,List.flatten_append];simp only[List.flatMap_cons,List.flatMap_nil,List.append_nil,List.flatten_cons,List.flatten_nil,List.append_assoc,Int.zero_sub];rfl
  ·try dsimp only
   unfold vp;rw[ß,List.take_length];rfl
section
variable {ρ:Type}
def wv (w:List Bool) (v:Int):Bool:=w[v.toNat]?.getD false
def Yy {w:List Bool} {u v:Int} (hu:0≤u) (hv:0≤v) (h:u.toNat<w.length) (y:Bool):wv (w.set u.toNat y) v=if v=u then y else wv w v:=by
 unfold wv;rw[List.getElem?_set]
 by_cases hvu:v=u
 ·subst hvu; simp[h]
 ·have:¬u.toNat=v.toNat:=by omega
  simp[hvu,this]
def j6 {x:List Int} {v:Int} (h:v.toNat<x.length) (f:Int→Option ρ):ł x v.toNat f=f (gv x v):=jd (Pn h) f
def Qe {w:List Bool} {v:Int} (h:v.toNat<w.length) (f:Bool→Option ρ):ł w v.toNat f=f (wv w v):=by
 refine jd ?_ f;unfold wv; rw[List.getElem?_eq_getElem h]; rfl
def Δ {v:Int} {n:Nat} (h0:0≤v) (h1:v<n) (x:Option ρ):ç ((ile 0 v)&&(ilt v (n:Int))) x=x:=by
 have:((ile 0 v)&&(ilt v (n:Int)))=true:=by simp[ile,ilt,h0,h1]
 rw[this,Am.iff_true]
end
def pR (n least:Int):List Lk→List Int→List Bool→List Int→Bool×List Int×List Bool×List Int
 |[],x,w,q=>(true,x,w,q)
 |l::t,x,w,q =>
  if l.1≠n then pR n least t x w q else
  if gv x l.2.1≤gv x n+l.2.2 then pR n least t x w q else
  if gv x n+l.2.2<least then(false,x.set l.2.1.toNat (gv x n+l.2.2),w,q) else
  if wv w l.2.1 then pR n least t (x.set l.2.1.toNat (gv x n+l.2.2)) w q else pR n least t (x.set l.2.1.toNat (gv x n+l.2.2)) (w.set l.2.1.toNat true) (q++[l.2.1])
structure iy (L:List Lk) (N:Nat) (M:Int):Prop where
 inr:InR L N
 noloop:∀l∈L,l.1≠l.2.1
 most:∀l∈L,-M≤l.2.2∧l.2.2≤M
 len:L.length≤400
 nodes:N≤1000
 m0:0≤M
 m1:M≤4503599627370496
set_option maxHeartbeats 1000000 in
def afU {ρ:Type} {L:List Lk} {N:Nat} {M:Int} (hL:iy L N M) {n least:Int} (hn:0≤n∧n<N) {x:List Int} {w:List Bool} {q:List Int} (hx:x.length=N) (hw:w.length=N) (hq:q.length≤1000000)
 (hb : -2305843009213693952≤gv x n∧gv x n≤2305843009213693952) (K0:(Val (.pair .bool (.pair (.slice tI) (.pair (.slice .bool) (.slice tI)))))→Option ρ) (K1:(Val (.pair (.slice tI) (.pair (.slice .bool) (.slice tI))))→Option ρ) :
 Ë (fun(v47:(Val (.pair tI (.pair (.slice tI) (.pair (.slice .bool) (.slice tI)))))) kk52=>iX [] least n L (Ú L) v47.1 v47.2.1 v47.2.2.1 v47.2.2.2 (fun u48 u49 u50 u51=>kk52 (u48,u49,u50,u51)) K0 K1) ((0:Int),x,w,q) =
  match pR n least L x w q with
  |(true,r)=>K1 r
  |(false,r)=>K0 (false,r):=by
 have hlen:=hL.len
 refine RI L (fun i (s:List Int×List Bool×List Int) t=>match pR n least t s.1 s.2.1 s.2.2 with|(true,r)=>K1 r|(false,r)=>K0 (false,r))
  (fun i s=>s.1.length=N∧s.2.1.length=N∧gv s.1 n=gv x n∧s.2.2.length≤1000000+i) (fun s hs kn=>?_) (fun i l t s hd hi hl hI kn hk=>?_) (s:=(x,w,q)) ⟨hx,hw,rfl,by simpa using hq⟩
 ·try dsimp only
  unfold iX;rw[ß];rfl
 ·obtain⟨y,u,p⟩:=s;obtain⟨h1,h2,h3,h4⟩:=hI;dsimp only at h1 h2 h3 h4 hk ⊢;have hmem:l∈L:=List.mem_of_getElem? hl;have hr:=hL.inr l hmem;have hm:=hL.most l hmem;have hm1:=hL.m1;have hnl:=hL.noloop l hmem;unfold iX;rw[Ó hi,È hl];unfold pR
  by_cases hln:l.1=n
  ·have e0:ine l.1 n=false:=by simp[ine,hln]
   rw[Î e0];have e1:∀(f:Bool→Option ρ) (g:Option ρ),MF (k:=tI) (v:=.bool) (i:Int) [] f g=g:=fun f g=>rfl;rw[e1,if_neg (by simp[hln])]
   have tn:n.toNat<y.length:=by omega
   have tt:l.2.1.toNat<y.length:=by omega
   have tu:l.2.1.toNat<u.length:=by omega
   rw[Δ hn.1 (by omega),j6 tn,Ô (by omega) (by omega),Δ hr.2.1 (by omega),j6 tt,Č]
   by_cases hge:gv y l.2.1≤gv y n+l.2.2
   ·rw[if_pos (by simpa[ige] using hge),if_pos hge,Í hi (by omega)];exact hk (y,u,p) ⟨h1,h2,h3,by dsimp only; omega⟩
   ·rw[if_neg (by simpa[ige] using hge),if_neg hge]
    have hset:gv (y.set l.2.1.toNat (gv y n+l.2.2)) n=gv x n:=by
     rw[rJ hr.2.1 hn.1 tt,if_neg (fun h=>hnl (hln.trans h)),h3]
    have hself:gv (y.set l.2.1.toNat (gv y n+l.2.2)) l.2.1=gv y n+l.2.2:=by
     rw[rJ hr.2.1 hr.2.1 tt,if_pos rfl]
    rw[Δ hn.1 (by omega),j6 tn,Ô (by omega) (by omega),Δ hr.2.1 (by omega),j6 tt];rw[show(ñ (List.set y l.2.1.toNat (gv y n+l.2.2)))=((y.length:Nat):Int) by simp[ñ]];rw[Δ hr.2.1 (by omega),j6 (by simpa using tt),hself,Č]
    by_cases hlt:gv y n+l.2.2<least
    ·rw[if_pos (by simpa[ilt] using hlt),if_pos hlt]
    ·rw[if_neg (by simpa[ilt] using hlt),if_neg hlt,Δ hr.2.1 (by omega),Qe tu,Č]
     cases hwv:wv u l.2.1 with
     |true =>
      rw[if_neg (by simp),if_pos rfl,Í hi (by omega)];exact hk (y.set l.2.1.toNat (gv y n+l.2.2),u,p) ⟨by simpa using h1,h2,hset,by dsimp only; omega⟩
     |false =>
      rw[if_pos (by simp),if_neg (by simp),Ø (by simp only[dv]; omega),Am.iff_true,Δ hr.2.1 (by omega),Qe tu,Í hi (by omega)];exact hk (y.set l.2.1.toNat (gv y n+l.2.2),u.set l.2.1.toNat true,p++[l.2.1]) ⟨by simpa using h1,by simpa using h2,hset,by simp only[cD,dv]; omega⟩
  ·have e0:ine l.1 n=true:=by simp[ine,hln]
   rw[Ù e0,if_pos hln,Í hi (by omega)];exact hk (y,u,p) ⟨h1,h2,h3,by dsimp only; omega⟩
structure agN (N:Nat) (n least:Int) (L:List Lk) (x:List Int) (q:List Int) (x':List Int) (w':List Bool) (q':List Int):Prop where
 lx:x'.length=N
 lw:w'.length=N
 same:gv x' n=gv x n
 le:∀v:Int,0≤v→v<N→gv x' v≤gv x v
 link:∀v m,(n,v,m)∈L→gv x' v≤gv x n+m
 chg:∀v:Int,0≤v→v<N→gv x' v=gv x v∨(v∈q'∧gv x' v<gv x v∧∃m,(n,v,m)∈L∧gv x' v=gv x n+m∧least≤gv x' v)
 new:∃l,q'=q++l∧∀v∈l,(0≤v∧v<N)∧gv x' v<gv x v
 nodup:q'.Nodup
 waits:∀v:Int,0≤v→v<N→(wv w' v=true↔v∈q')
def ks {N:Nat} {n least:Int} (hn:0≤n∧n<N):∀{L:List Lk},InR L N→(∀l∈L,l.1≠l.2.1)→∀{x:List Int} {w:List Bool} {q:List Int},x.length=N→w.length=N→q.Nodup→(∀v:Int,0≤v→v<N→(wv w v=true↔v∈q)) →
 ∀{x':List Int} {w':List Bool} {q':List Int},pR n least L x w q=(true,x',w',q')→agN N n least L x q x' w' q'
 |[],_,_,x,w,q,hx,hw,hq,hwq,x',w',q',h=>by
  cases h;exact⟨hx,hw,rfl,fun _ _ _=>dC _,fun _ _ h=>(by cases h),fun _ _ _=>.inl rfl,⟨[],by simp,fun _ h=>by cases h⟩,hq,hwq⟩
 |l::t,hL,hnl,x,w,q,hx,hw,hq,hwq,x',w',q',h=>by
  have hLt:InR t N:=fun l hl=>hL l (by simp[hl]);have hnt:∀l∈t,l.1≠l.2.1:=fun l hl=>hnl l (by simp[hl]);have hr:=hL l (by simp);have hl0:=hnl l (by simp);unfold pR at h
  split at h
  ·rename_i hne;have a:=ks hn hLt hnt hx hw hq hwq h
   exact⟨a.lx,a.lw,a.same,a.le,fun v m hm=>by
    rcases cF.1 hm with rfl|hm
    ·exact(hne rfl).elim
    ·exact a.link v m hm,fun v h0 h1=>(a.chg v h0 h1).imp id fun⟨g1,g2,m,g3,g4⟩=>⟨g1,g2,m,by simp[g3],g4⟩,a.new,a.nodup,a.waits⟩
  ·rename_i hne
   have hln:l.1=n:=by simpa using hne
   split at h
   ·rename_i hle;have a:=ks hn hLt hnt hx hw hq hwq h
    exact⟨a.lx,a.lw,a.same,a.le,fun v m hm=>by
     rcases cF.1 hm with rfl|hm
     ·have:=a.le v hr.2.1 hr.2.2; simp only at hle; omega
     ·exact a.link v m hm,fun v h0 h1=>(a.chg v h0 h1).imp id fun⟨g1,g2,m,g3,g4⟩=>⟨g1,g2,m,by simp[g3],g4⟩,a.new,a.nodup,a.waits⟩
   ·rename_i hgt
    split at h
    ·cases h
    ·rename_i hls
     have tt:l.2.1.toNat<x.length:=by omega
     have tw:l.2.1.toNat<w.length:=by omega
     have hy:(x.set l.2.1.toNat (gv x n+l.2.2)).length=N:=by simpa using hx
     have hyn:gv (x.set l.2.1.toNat (gv x n+l.2.2)) n=gv x n:=by
      rw[rJ hr.2.1 hn.1 tt,if_neg (fun h=>hl0 (hln.trans h))]
     have hyv:∀v,0≤v→gv (x.set l.2.1.toNat (gv x n+l.2.2)) v=if v=l.2.1 then gv x n+l.2.2 else gv x v:=fun v h0=>rJ hr.2.1 h0 tt _
     have hlm:(n,l.2.1,l.2.2)∈l::t:=by rw[←hln]; simp
     -- what both ways have in common
     have fin:∀{w1:List Bool} {q1:List Int},agN N n least t (x.set l.2.1.toNat (gv x n+l.2.2)) q1 x' w' q'→l.2.1∈q1→(∃l',q1=q++l'∧∀v∈l',v=l.2.1)→agN N n least (l::t) x q x' w' q':=by
      intro w1 q1 a hmem hq1;obtain⟨new,hnew,hnv⟩:=a.new;obtain⟨l',hl',hlv⟩:=hq1
      have hto:gv x' l.2.1≤gv x n+l.2.2:=by
       have:=a.le l.2.1 hr.2.1 hr.2.2;rw[hyv _ hr.2.1,if_pos rfl] at this;exact this
      refine⟨a.lx,a.lw,a.same.trans hyn,fun v h0 h1=>?_,fun v m hm=>?_,fun v h0 h1=>?_,⟨l'++new,by rw[hnew,hl',cJ],fun v hv=>?_⟩,a.nodup,a.waits⟩
      ·have:=a.le v h0 h1;rw[hyv v h0] at this
       split at this
       ·rename_i e; subst e; omega
       ·exact this
      ·rcases cF.1 hm with rfl|hm
       ·exact hto
       ·have:=a.link v m hm
        rwa [hyn] at this
      ·rcases a.chg v h0 h1 with g|⟨g1,g2,m,g3,g4,g5⟩
       ·rw[hyv v h0] at g
        split at g
        ·rename_i e;subst e;exact .inr ⟨by rw[hnew]; exact dt _ hmem,by omega,l.2.2,hlm,g,by omega⟩
        ·exact .inl g
       ·rw[hyv v h0] at g2;rw[hyn] at g4;refine .inr ⟨g1,?_,m,by simp[g3],g4,g5⟩
        split at g2
        ·rename_i e; subst e; omega
        ·exact g2
      ·rcases cE.1 hv with hv|hv
       ·rw[hlv v hv]; exact⟨hr.2,by omega⟩
       ·obtain⟨g1,g2⟩:=hnv v hv;rw[hyv v g1.1] at g2;refine⟨g1,?_⟩
        split at g2
        ·rename_i e; subst e; omega
        ·exact g2
     split at h
     ·rename_i hwt;exact fin (w1:=w) (ks hn hLt hnt hy hw hq hwq h) ((hwq _ hr.2.1 hr.2.2).1 hwt) ⟨[],by simp,fun _ h=>by cases h⟩
     ·rename_i hwt;have hnq:l.2.1∉q:=fun hc=>hwt ((hwq _ hr.2.1 hr.2.2).2 hc);refine fin (w1:=w.set l.2.1.toNat true) (ks hn hLt hnt hy (by simpa using hw) ?_ ?_ h) (by simp) ⟨[l.2.1],rfl,fun v hv=>by simpa using hv⟩
      ·rw[List.nodup_append];exact⟨hq,by simp,fun a ha b hb=>by simp at hb; subst hb; exact fun e=>hnq (e▸ha)⟩
      ·intro v h0 h1;rw[Yy hr.2.1 h0 tw]
       by_cases hv:v=l.2.1
       ·simp[hv]
       ·simp only[hv,if_false,cE,cH,or_false];exact hwq v h0 h1
def nM {n least:Int}:∀{L:List Lk},(∀l∈L,l.1≠l.2.1)→(∀l∈L,0≤l.2.1)→0≤n→∀{x:List Int} {w:List Bool} {q:List Int} {r},pR n least L x w q=(false,r)→∃v m,(n,v,m)∈L∧gv x n+m<least
 |[],_,_,_,x,w,q,r,h=>by cases h
 |l::t,hnl,h0,hn,x,w,q,r,h=>by
  have hnt:∀l∈t,l.1≠l.2.1:=fun l hl=>hnl l (by simp[hl]);have h0t:∀l∈t,0≤l.2.1:=fun l hl=>h0 l (by simp[hl]);have up:(∃v m,(n,v,m)∈t∧gv x n+m<least)→∃v m,(n,v,m)∈l::t∧gv x n+m<least:=fun⟨v,m,g1,g2⟩=>⟨v,m,by simp[g1],g2⟩;unfold pR at h
  split at h
  ·exact up (nM hnt h0t hn h)
  ·rename_i hne
   have hln:l.1=n:=by simpa using hne
   split at h
   ·exact up (nM hnt h0t hn h)
   ·split at h
    ·rename_i hlt;exact⟨l.2.1,l.2.2,by rw[←hln]; simp,hlt⟩
    ·have hyn:gv (x.set l.2.1.toNat (gv x n+l.2.2)) n=gv x n:=by
      unfold gv;rw[List.getElem?_set];have h1:=hnl l (by simp);have h2:=h0 l (by simp)
      have:¬l.2.1.toNat=n.toNat:=by omega
      simp[this]
     split at h
     ·have:=nM hnt h0t hn h;rw[hyn] at this;exact up this
     ·have:=nM hnt h0t hn h;rw[hyn] at this;exact up this
def Zh {ρ:Type} {L:List Lk} {N:Nat} {M:Int} (hL:iy L N M) {n least:Int} (hn:0≤n∧n<N) {x:List Int} {w:List Bool} {t rest:List Int} (hx:x.length=N) (hw:w.length=N) (ht:t.length=N) (hq:rest.length≤1000000)
 (hb : -2305843009213693952≤gv x n∧gv x n≤2305843009213693952) (htn:0≤gv t n∧gv t n≤1000000) (kn:List Int→List Bool→List Int→List Int→Option ρ) (k0:(Val (.pair .bool (.pair (.slice tI) (.pair (.slice .bool) (.pair (.slice tI) (.slice tI))))))→Option ρ) :
 Ħ [] least (N:Int) L x w t (n::rest) kn k0 =
  if (N:Int)+1<gv t n+1 then k0 (false,x,w.set n.toNat false,t.set n.toNat (gv t n+1),rest) else
  match pR n least L x (w.set n.toNat false) rest with
  |(true,x',w',q')=>kn x' w' (t.set n.toNat (gv t n+1)) q'
  |(false,x',w',q')=>k0 (false,x',w',t.set n.toNat (gv t n+1),q'):=by
 have hN:=hL.nodes
 have tn:n.toNat<x.length:=by omega
 have tw:n.toNat<w.length:=by omega
 have tt:n.toNat<t.length:=by omega
 unfold Ħ
 have e0:ieq (Ú (n::rest)) 0=false:=by
  rw[Ñ];simp only[ieq,cN,beq_eq_false_iff_ne,ne_eq];omega
 have e1:ilt (0:Int) (ñ (n::rest))=true:=by simp[ilt,ñ]
 have e2:ile (1:Int) (ñ (n::rest))=true:=by simp[ile,ñ]; omega
 have e3:decide (1+(List.length (n::rest)-1)=List.length (n::rest))=true:=by simp; omega
 rw[Î e0,Ć e1];rw[show ł (n::rest) 0=fun(f:Int→Option ρ)=>f n from rfl]
 try dsimp only
 rw[Ć e2,Ć e3,Δ hn.1 (by omega),Qe tw,Δ hn.1 (by omega),j6 tt,Ô (by omega) (by omega),Δ hn.1 (by omega),j6 tt];rw[show(ñ (List.set t n.toNat (gv t n+1)))=((t.length:Nat):Int) by simp[ñ]];rw[Δ hn.1 (by omega),j6 (by simpa using tt),rJ hn.1 hn.1 tt,if_pos rfl,Ô (by omega) (by omega),Č];rw[show List.drop 1 (n::rest)=rest from rfl]
 by_cases hlt:(N:Int)+1<gv t n+1
 ·rw[if_pos (by simpa[igt] using hlt),if_pos hlt]
 ·rw[if_neg (by simpa[igt] using hlt),if_neg hlt];rw[afU hL hn hx (w:=w.set n.toNat false) (by simpa using hw) hq hb];generalize pR n least L x (w.set n.toNat false) rest=r;obtain⟨b,x',w',q'⟩:=r
  cases b<;>rfl
def acI {ρ:Type} {L:List Lk} {N:Int} {least:Int} {x:List Int} {w:List Bool} {t:List Int} (kn:List Int→List Bool→List Int→List Int→Option ρ) (k0:(Val (.pair .bool (.pair (.slice tI) (.pair (.slice .bool) (.pair (.slice tI) (.slice tI))))))→Option ρ) :
 Ħ [] least N L x w t [] kn k0=k0 (true,x,w,t,[]):=by
 unfold Ħ
 have e0:ieq (Ú ([]:List Int)) 0=true:=by rw[Ñ]; rfl
 rw[Ù e0]
def RM (N:Nat) (t:List Int):Nat:=(t.map fun a=>((N:Int)+2-a).toNat).sum
def Zv (N:Nat):∀(t:List Int) (i:Nat) (a b:Int),t[i]?=some a→a<b→a<(N:Int)+2→RM N (t.set i b)<RM N t
 |a0::t,0,a,b,h,h1,h2=>by
  simp at h; subst h;simp only[RM,List.set_cons_zero,eo,List.sum_cons];omega
 |a0::t,i+1,a,b,h,h1,h2=>by
  have:=Zv N t i a b (by simpa using h) h1 h2;simp only[RM] at this;simp only[RM,List.set_cons_succ,eo,List.sum_cons];omega
def Vj {N:Nat} {t:List Int} {n:Int} (hn:n.toNat<t.length) (h:gv t n≤(N:Int)+1):RM N (t.set n.toNat (gv t n+1))<RM N t :=
 Zv N t n.toNat (gv t n) _ (Pn hn) (by omega) (by omega)
structure abL (L:List Lk) (S:Int→Prop) (N:Nat) (M:Int) (k:Nat) (A B:List Int) (x:List Int) (w:List Bool) (t q:List Int):Prop where
 q_eq:q=A++B
 lx:x.length=N
 lw:w.length=N
 lt:t.length=N
 nodup:q.Nodup
 rng:∀v∈q,0≤v∧v<N
 waits:∀v:Int,0≤v→v<N→(wv w v=true↔v∈q)
 t0:∀v:Int,0≤v→v<N→0≤gv t v∧gv t v≤(k:Int)+1
 tA:∀v∈A,gv t v≤k
 low:∀vs v d,Wl L S vs v d→vs.length≤k→gv x v≤d
 nxt:∀vs u d,Wl L S vs u d→vs.length≤k→u∉A→∀v m,(u,v,m)∈L→gv x v≤d+m
 rel:∀u:Int,0≤u→u<N→u∉q→gv x u≠ŋ→∀v m,(u,v,m)∈L→gv x v≤gv x u+m
 att:∀v:Int,0≤v→v<N→gv x v≠ŋ→∃vs,Wl L S vs v (gv x v)
 bd:∀v:Int,0≤v→v<N→gv x v=ŋ∨gv x v≤((k:Int)+1)*M
 bA:∀v∈A,gv x v≤(k:Int)*M
 fin:∀v∈q,gv x v<ŋ
 kN:k+1≤N
 last:k+1=N→B=[]
section
variable {L:List Lk} {S:Int→Prop} {N:Nat} {M:Int} {p:Int→Int} {k:Nat} {A B x:List Int} {w:List Bool} {t q:List Int}
def IH {a b:Nat} {M:Int} (h:a≤b) (hM:0≤M):(a:Int)*M≤(b:Int)*M:=fp (by omega) hM
def Wl.lt_free (hL:iy L N M) (hNM:N*M<ŋ) {vs:List Int} {v d:Int} (hw:Wl L S vs v d) (h:vs.length≤N):d<ŋ:=by
 have h1:=hw.high fun l hl=>(hL.most l hl).2;have h2:=IH h hL.m0;omega
def abL.next (hL:iy L N M) (hNM:N*M<ŋ) (hS:∀v,S v→0≤v∧v<N) (h:abL L S N M k [] B x w t q) (hB:B≠[]):abL L S N M (k+1) B [] x w t q:=by
 have hM:=hL.m0
 have hq:q=B:=by simpa using h.q_eq
 have hk:k+1≠N:=fun e=>hB (h.last e);have hkN:=h.kN
 have low':∀vs v d,Wl L S vs v d→vs.length≤k+1→gv x v≤d:=by
  intro vs v d hw hl
  cases hw with
  |nil hs=>exact h.low [] v 0 (.nil hs) (by simp)
  | @step vs u _ m d hw hlk=>exact h.nxt vs u d hw (by simpa using hl) (by simp) v m hlk
 refine⟨by simp[hq],h.lx,h.lw,h.lt,h.nodup,h.rng,h.waits,fun v h0 h1=>⟨(h.t0 v h0 h1).1,by have:=(h.t0 v h0 h1).2; push_cast; omega⟩,fun v hv=>?_,low',fun vs u d hw hl hu v m hlk=>?_,h.rel,h.att,fun v h0 h1=>?_,fun v hv=>?_,h.fin,by omega,fun _=>rfl⟩
 ·have:=h.rng v (by rw[hq]; exact hv);have:=(h.t0 v this.1 this.2).2;push_cast; omega
 ·have h1:=low' vs u d hw hl;have h2:=hw.lt_free hL hNM (by omega);have h3:=(hw.range hL.inr hS).1;have:=h.rel u h3.1 h3.2 (by rw[hq]; exact hu) (by omega) v m hlk;omega
 ·rcases h.bd v h0 h1 with h2|h2
  ·exact .inl h2
  ·refine .inr ?_;have:=IH (show k+1≤k+1+1 by omega) hM;push_cast at this ⊢;omega
 ·have h1:=h.rng v (by rw[hq]; exact hv);have h2:=h.fin v (by rw[hq]; exact hv);rcases h.bd v h1.1 h1.2 with h3|h3
  ·omega
  ·push_cast; exact h3
def abL.step {n:Int} {A':List Int} {least:Int} {x':List Int} {w':List Bool} {q':List Int} (hL:iy L N M) (hNM:N*M<ŋ) (hp:Pot L p) (hS:∀v,S v→0≤v∧v<N) (h:abL L S N M k (n::A') B x w t q)
 (ha:agN N n least L x (A'++B) x' w' q'):∃B',abL L S N M k A' B' x' w' (t.set n.toNat (gv t n+1)) q':=by
 have hM:=hL.m0
 have hq:q=n::(A'++B):=by simpa using h.q_eq
 have hkN:=h.kN;have hnr:=h.rng n (by rw[hq]; simp);have hnf:=h.fin n (by rw[hq]; simp)
 have hnd:n∉A'++B:=by have:=h.nodup; rw[hq,eG] at this; exact this.1
 have htn:n.toNat<t.length:=by have:=h.lt; omega
 have tset:∀v,0≤v→gv (t.set n.toNat (gv t n+1)) v=if v=n then gv t n+1 else gv t v:=fun v h0=>rJ hnr.1 h0 htn _
 have hkM:((k:Int)+1)*M<ŋ:=by
  have:=IH hkN hM;push_cast at this;omega
 have xle:∀v:Int,0≤v→v<N→gv x v≤ŋ:=fun v h0 h1=>by rcases h.bd v h0 h1 with h2|h2<;>omega
 obtain⟨l,hl,hlv⟩:=ha.new
 have att':∀v:Int,0≤v→v<N→gv x' v≠ŋ→∃vs,Wl L S vs v (gv x' v):=by
  intro v h0 h1 hne;rcases ha.chg v h0 h1 with g|⟨_,_,m,g3,g4,_⟩
  ·rw[g] at hne ⊢; exact h.att v h0 h1 hne
  ·obtain⟨vs,hw⟩:=h.att n hnr.1 hnr.2 (by omega);rw[g4]; exact⟨_,hw.step g3⟩
 refine⟨B++l,by rw[hl,cJ],ha.lx,ha.lw,by rw[eR]; exact h.lt,ha.nodup,fun v hv=>?_,ha.waits,fun v h0 h1=>?_,fun v hv=>?_,fun vs v d hw hlen=>?_,fun vs u d hw hlen hu v m hlk=>?_,
  fun u h0 h1 hu hf v m hlk=>?_,att',fun v h0 h1=>?_,fun v hv=>?_,fun v hv=>?_,hkN,fun hk=>?_⟩
 ·rw[hl] at hv;rcases cE.1 hv with hv|hv
  ·exact h.rng v (by rw[hq]; simp only[cF]; exact .inr hv)
  ·exact(hlv v hv).1
 ·rw[tset v h0];have h2:=h.t0 v h0 h1
  split
  ·have h3:=h.tA n (by simp);have h4:=h.t0 n hnr.1 hnr.2;omega
  ·exact h2
 ·have h1:=h.rng v (by rw[hq]; simp[hv]);rw[tset v h1.1,if_neg (fun e=>hnd (by rw[←e]; simp[hv]))];exact h.tA v (by simp[hv])
 ·have h1:=h.low vs v d hw hlen;have h2:=(hw.range hL.inr hS).1;have:=ha.le v h2.1 h2.2;omega
 ·have hvr:=(hL.inr _ hlk).2
  by_cases hun:u=n
  ·subst hun;have h1:=ha.link v m hlk;have h2:=h.low vs u d hw hlen;omega
  ·have h1:=h.nxt vs u d hw hlen (by simp[hun,hu]) v m hlk;have:=ha.le v hvr.1 hvr.2;omega
 ·have hvr:=(hL.inr _ hlk).2
  have heq:gv x' u=gv x u:=by
   rcases ha.chg u h0 h1 with g|⟨g,_⟩
   ·exact g
   ·exact(hu g).elim
  by_cases hun:u=n
  ·subst hun;have h1:=ha.link v m hlk;omega
  ·have hur:u∉q:=by
    rw[hq];intro hc;rcases cF.1 hc with e|hc
    ·exact hun e
    ·exact hu (by rw[hl]; exact dt _ hc)
   have h2:=h.rel u h0 h1 hur (by rw[←heq]; exact hf) v m hlk;have:=ha.le v hvr.1 hvr.2;omega
 ·rcases ha.chg v h0 h1 with g|⟨_,_,m,g3,g4,_⟩
  ·rw[g]; exact h.bd v h0 h1
  ·have h2:=h.bA n (by simp);have h3:=(hL.most _ g3).2;simp only at h3;refine .inr ?_;rw[g4,f5,gn];omega
 ·have h1:=h.rng v (by rw[hq]; simp[hv]);have h2:=h.bA v (by simp[hv]);have:=ha.le v h1.1 h1.2;omega
 ·rw[hl] at hv;rcases cE.1 hv with hv|hv
  ·have h1:=h.rng v (by rw[hq]; simp only[cF]; exact .inr hv);have h2:=h.fin v (by rw[hq]; simp only[cF]; exact .inr hv);have:=ha.le v h1.1 h1.2;omega
  ·obtain⟨g1,g2⟩:=hlv v hv;have:=xle v g1.1 g1.2;omega
 ·rw[h.last hk]
  cases l with
  |nil=>rfl
  |cons v l =>
   exfalso;obtain⟨g1,g2⟩:=hlv v (by simp);have:=xle v g1.1 g1.2;obtain⟨vs,hw⟩:=att' v g1.1 g1.2 (by omega);obtain⟨vs',d',k1,k2,k3⟩:=hw.simple hp;have k4:=k1.short hL.inr hS k3;have:=h.low vs' v d' k1 (by omega);omega
def abL.done (hL:iy L N M) (hNM:N*M<ŋ) (hp:Pot L p) (hS:∀v,S v→0≤v∧v<N) (h:abL L S N M k A B x w t []):abN L S N (gv x):=by
 have hkN:=h.kN;have hM:=hL.m0
 have hkM:((k:Int)+1)*M<ŋ:=by
  have:=IH hkN hM;push_cast at this;omega
 have key:∀vs v d,Wl L S vs v d→vs.length+1≤N→gv x v≤d:=by
  intro vs v d hw
  induction hw with
  |nil hs=>intro _; exact h.low [] _ 0 (.nil hs) (by simp)
  | @step vs u v m d hw hlk ih =>
   intro hlen;simp only[cN] at hlen;have h1:=ih (by omega);have h2:=hw.lt_free hL hNM (by omega);have h3:=(hw.range hL.inr hS).1;have:=h.rel u h3.1 h3.2 (by simp) (by omega) v m hlk;omega
 refine⟨h.att,fun v vs d hw=>?_,fun v h0 h1=>?_⟩
 ·obtain⟨vs',d',k1,k2,k3⟩:=hw.simple hp;have:=key vs' v d' k1 (k1.short hL.inr hS k3);omega
 ·rcases h.bd v h0 h1 with h2|h2<;>omega
def S7 {ρ:Type} {r:Option ρ} (hL:iy L N M) (hNM:N*M<ŋ) (hp:Pot L p) (hS:∀v,S v→0≤v∧v<N) (k0:(Val (.pair .bool (.pair (.slice tI) (.pair (.slice .bool) (.pair (.slice tI) (.slice tI))))))→Option ρ)
 (hK:∀x w t q,x.length=N→abN L S N (gv x)→k0 (true,x,w,t,q)=r) (h:abL L S N M k A B x w t q) :
 Ë (fun(v64:(Val (.pair (.slice tI) (.pair (.slice .bool) (.pair (.slice tI) (.slice tI)))))) kk69=>Ħ [] (IG L) (N:Int) L v64.1 v64.2.1 v64.2.2.1 v64.2.2.2 (fun u65 u66 u67 u68=>kk69 (u65,u66,u67,u68)) k0) (x,w,t,q)=r:=by
 refine Ě (fun s:List Int×List Bool×List Int×List Int=>∃k A B,abL L S N M k A B s.1 s.2.1 s.2.2.1 s.2.2.2) (fun s=>RM N s.2.2.1) ?_ ⟨k,A,B,h⟩;rintro⟨x,w,t,q⟩ ⟨k,A,B,h⟩;dsimp only at h ⊢;have hN:=hL.nodes
 cases q with
 |nil=>exact .inl fun kn=>by rw[acI]; exact hK x w t [] h.lx (h.done hL hNM hp hS)
 |cons n rest =>
  -- the phase in which the first one is
  have hph:∃k A' B,abL L S N M k (n::A') B x w t (n::rest):=by
   cases A with
   |nil =>
    have hB:B=n::rest:=by simpa using h.q_eq.symm
    subst hB;exact⟨k+1,rest,[],h.next hL hNM hS (by simp)⟩
   |cons a A' =>
    have:=h.q_eq;simp only[eZ,List.cons.injEq] at this;obtain⟨rfl,_⟩:=this;exact⟨k,A',B,h⟩
  clear h k A B;obtain⟨k,A',B,h⟩:=hph
  have hrest:rest=A'++B:=by have:=h.q_eq; simpa using this
  have hnr:=h.rng n (by simp);have hnf:=h.fin n (by simp);have hkN:=h.kN;have h1:=h.tA n (by simp);have h2:=h.t0 n hnr.1 hnr.2;obtain⟨vs,hw⟩:=h.att n hnr.1 hnr.2 (by omega);have hlow:=hw.low' hp
  have hneg : -(400*4503599627370496)≤IG L:=by
   have:∀L':List Lk,(∀l∈L',-M≤l.2.2)→-((L'.length:Int)*M)≤IG L':=by
    intro L'
    induction L' with
    |nil=>intro _; simp[IG,HC]
    |cons l t ih =>
     intro hh;have i1:=ih fun l hl=>hh l (by simp[hl]);have i2:=hh l (by simp);have i3:=hL.m0;unfold IG at i1 ⊢;simp only[HC,if_true,List.length_cons,Int.natCast_succ,Int.add_mul,Int.one_mul];omega
   have h3:=this L fun l hl=>(hL.most l hl).1;have h4:(L.length:Int)*M≤400*4503599627370496:=fP (by have:=hL.len; omega) hL.m1 hL.m0 (by omega);omega
  have hrl:rest.length≤1000000:=by
   have:=Y4 N (n::rest) h.nodup h.rng;simp only[cN] at this;omega
  refine .inr ?_
  have hw':(w.set n.toNat false).length=N:=by rw[eR]; exact h.lw
  cases hr:pR n (IG L) L x (w.set n.toNat false) rest with
  |mk b r' =>
  obtain⟨x',w',q'⟩:=r'
  cases b with
  |false =>
   exfalso;obtain⟨v,m,g1,g2⟩:=nM hL.noloop (fun l hl=>(hL.inr l hl).2.1) hnr.1 hr;have:=(hw.step g1).low' hp;omega
  |true =>
   have hnd:=h.nodup;rw[eG] at hnd
   have ha:=ks hnr hL.inr hL.noloop h.lx hw' hnd.2 (fun v h0 h1=>by
    rw[Yy hnr.1 h0 (by have:=h.lw; omega)]
    by_cases hv:v=n
    ·subst hv; simp[hnd.1]
    ·rw[if_neg hv,h.waits v h0 h1]
     simp[hv]) hr
   rw[hrest] at ha;obtain⟨B',hB'⟩:=h.step hL hNM hp hS ha;refine⟨(x',w',t.set n.toNat (gv t n+1),q'),⟨k,A',B',hB'⟩,Vj (by have:=h.lt; omega) (by omega),fun kn=>?_⟩;have hF:ŋ=1152921504606846976:=rfl
   rw[Zh hL hnr h.lx h.lw h.lt hrl (by constructor<;>omega) (by constructor<;>omega),if_neg (by omega),hr]
end
def Jz (f:Lk→Bool):∀(L L':List Lk),HC f (L++L')=HC f L+HC f L'
 |[],L'=>by simp[HC]
 |l::t,L'=>by
  simp only[eZ,HC,Jz f t L'];omega
def TR {L:List Lk} {i:Nat} {l:Lk} (h:L[i]?=some l):IG (L.take (i+1))=IG (L.take i)+min l.2.2 0:=by
 rw[take_succ h,IG,IG,Jz];simp[HC]
def imin0 (e:Int):ZA e 0=min e 0:=by
 unfold ZA
 split<;>omega
def WU {L:List Lk} {M:Int} (h:∀l∈L,-M≤l.2.2) (hM:0≤M) : -((L.length:Int)*M)≤IG L:=by
 induction L with
 |nil=>simp[IG,HC]
 |cons l t ih =>
  have i1:=ih fun l hl=>h l (by simp[hl]);have i2:=h l (by simp);unfold IG at i1 ⊢;simp only[HC,if_true,List.length_cons,Int.natCast_succ,Int.add_mul,Int.one_mul];omega
def ahO (L:List Lk):IG L≤0:=uF _ L
section
variable {ρ:Type} {L:List Lk} {N:Nat} {M:Int}
def Zx (hL:iy L N M) (k0:Int→Option ρ):Ë (fun(v75:Val Ã) kk78=>gX L (Ú L) v75.1 v75.2 (fun u76 u77=>kk78 (u76,u77)) k0) ((0:Int),(0:Int))=k0 (IG L):=by
 refine Ě (fun x:Int×Int=>∃i:Nat,i≤L.length∧x=(IG (L.take i),(i:Int))) (fun x=>L.length-x.2.toNat) ?_ ⟨0,by omega,rfl⟩;rintro x ⟨i,hi,rfl⟩;have hlen:=hL.len;rcases cV i L.length with h|h
 ·have hl:L[i]?=some L[i]:=cw h;refine .inr ⟨(IG (L.take (i+1)),(i:Int)+1),⟨i+1,h,by simp⟩,by simp; omega,fun kn=>?_⟩
  try dsimp only
  unfold gX
  have hb:∀j,j≤L.length→-(400*4503599627370496)≤IG (L.take j):=by
   intro j hj;have h1:=WU (L:=L.take j) (fun l hl=>(hL.most l (fL hl)).1) hL.m0;have h2:((L.take j).length:Int)*M≤400*4503599627370496:=fP (by rw[cT]; omega) hL.m1 hL.m0 (by omega);omega
  have h1:=hb i hi;have h2:=hb (i+1) h;have h3:=ahO (L.take i);rw[TR hl] at h2;rw[Ó h,È hl,imin0,Ô (by omega) (by omega),Í h (by omega),TR hl]
 ·refine .inl fun kn=>?_
  have:i=L.length:=by omega
  subst this
  try dsimp only
  unfold gX;rw[ß,List.take_length]
def ach {x:List Int} (hx:x.length=N) (hN:N≤1000) {r:Option ρ} (k0:(Val (.pair (.slice .bool) (.slice tI)))→Option ρ)
 (hK:∀(w:List Bool) (q:List Int),w.length=N→q.Nodup→(∀v∈q,0≤v∧v<N)→(∀v:Int,0≤v→v<N→(wv w v=true↔v∈q))→(∀v:Int,0≤v→v<N→(v∈q↔gv x v≠ŋ))→k0 (w,q)=r) :
 Ë (fun(v70:(Val (.pair tI (.pair (.slice .bool) (.slice tI))))) kk74=>Ř (N:Int) x v70.1 v70.2.1 v70.2.2 (fun u71 u72 u73=>kk74 (u71,u72,u73)) k0) ((0:Int),(List.replicate N false),([]:List Int))=r:=by
 refine Ě (fun s:Int×List Bool×List Int=>∃i:Nat,i≤N∧s.1=i∧s.2.1.length=N∧s.2.2.Nodup∧s.2.2.length≤i∧(∀v∈s.2.2,0≤v∧v<i)∧(∀v:Int,0≤v→v<N→(wv s.2.1 v=true↔v∈s.2.2))∧(∀v:Int,0≤v→v<i→(v∈s.2.2↔gv x v≠ŋ))) (fun s=>N-s.1.toNat) ?_
  ⟨0,by omega,rfl,by simp,by simp,by simp,by simp,fun v h0 h1=>?_,fun v h0 h1=>by omega⟩
 ·rintro⟨s,w,q⟩ ⟨i,hi,h1,h2,h3,h4,h5,h6,h7⟩;simp only at h1 h2 h3 h4 h5 h6 h7;subst h1;rcases cV i N with h|h
  ·refine .inr ?_
   have hix:i<x.length:=by omega
   have hiw:i<w.length:=by omega
   have hnq:((i:Int))∉q:=fun hc=>by have:=(h5 _ hc).2; omega
   by_cases hf:gv x i=ŋ
   ·refine⟨((i:Int)+1,w,q),⟨i+1,h,by simp,h2,h3,by simp only; omega,fun v hv=>⟨(h5 v hv).1,by have:=(h5 v hv).2; push_cast; omega⟩,h6,fun v h0 h1=>?_⟩,by simp; omega,fun kn=>?_⟩
    ·by_cases hv:v=i
     ·subst hv; simp[hf,hnq]
     ·exact h7 v h0 (by push_cast at h1; omega)
    ·try dsimp only
     unfold Ř
     have e:ilt (i:Int) (N:Int)=true:=by simp[ilt,h]
     rw[Ù e,ũ hix,j6 (by simpa using hix)]
     have e2:ine (gv x i) 1152921504606846976=false:=by simp[ine,hf]
     rw[Î e2,Í h (by omega)]
   ·refine⟨((i:Int)+1,w.set i true,q++[(i:Int)]),⟨i+1,h,by simp,by simpa using h2,?_,by simp; omega,fun v hv=>?_,fun v h0 h1=>?_,fun v h0 h1=>?_⟩,by simp; omega,fun kn=>?_⟩
    ·rw[List.nodup_append];exact⟨h3,by simp,fun a ha b hb=>by simp at hb; subst hb; exact fun e=>hnq (e▸ha)⟩
    ·rcases cE.1 hv with hv|hv
     ·exact⟨(h5 v hv).1,by have:=(h5 v hv).2; push_cast; omega⟩
     ·simp at hv; subst hv; push_cast; omega
    ·have:=Yy (w:=w) (u:=(i:Int)) (by omega) h0 (by simpa using hiw) true;rw[cP] at this;show wv (w.set i true) v=true↔v∈q++[(i:Int)];rw[this]
     by_cases hv:v=i
     ·simp[hv]
     ·simp only[hv,if_false,cE,cH,or_false];exact h6 v h0 h1
    ·show v∈q++[(i:Int)]↔_
     by_cases hv:v=i
     ·subst hv; simp[hf]
     ·simp only[cE,cH,hv,or_false];exact h7 v h0 (by push_cast at h1; omega)
    ·try dsimp only
     unfold Ř
     have e:ilt (i:Int) (N:Int)=true:=by simp[ilt,h]
     rw[Ù e,ũ hix,j6 (by simpa using hix)]
     have e2:ine (gv x i) 1152921504606846976=true:=by simp[ine,hf]
     rw[Ù e2,Ø (by simp only[dv]; omega),Am.iff_true,ũ hiw,Qe (by simpa using hiw),Í h (by omega),cP]
  ·refine .inl fun kn=>?_
   have:i=N:=by omega
   subst this
   try dsimp only
   unfold Ř
   have e:ilt (i:Int) (i:Int)=false:=by simp[ilt]
   rw[Î e];exact hK w q h2 h3 h5 h6 h7
 ·have:wv (List.replicate N false) v=false:=by
   unfold wv;rw[List.getElem?_replicate]
   split<;>rfl
  simp[this]
def Oq (hL:iy L N M) (hN:1≤N) {S:Int→Bool} (hS:∀v,S v=true→0≤v∧v<N) {w:List Bool} {q:List Int} (hw:w.length=N) (hq:q.Nodup) (hr:∀v∈q,0≤v∧v<N) (hwq:∀v:Int,0≤v→v<N→(wv w v=true↔v∈q)) (hqs:∀v:Int,0≤v→v<N→(v∈q↔gv (uA S N) v≠ŋ)) :
 abL L (fun v=>S v=true) N M 0 q [] (uA S N) w (List.replicate N 0) q:=by
 have ht:∀v:Int,0≤v→v<N→gv (List.replicate N (0:Int)) v=0:=by
  intro v h0 h1;unfold gv;rw[List.getElem?_replicate]
  split<;>rfl
 have hg:∀v:Int,0≤v→v<N→(v∈q↔S v=true):=by
  intro v h0 h1;rw[hqs v h0 h1,iK S h0 h1]
  cases S v<;>simp[ŋ]
 have hM:=hL.m0;refine⟨by simp,ï S N,hw,by simp,hq,hr,hwq,fun v h0 h1=>?_,fun v hv=>?_,fun vs v d hw hl=>?_,fun vs u d hw hl hu v m hlk=>?_,fun u h0 h1 hu hf v m hlk=>?_,fun v h0 h1 hf=>?_,fun v h0 h1=>?_,fun v hv=>?_,fun v hv=>?_,by omega,fun _=>rfl⟩
 ·rw[ht v h0 h1]; omega
 ·have:=hr v hv;rw[ht v this.1 this.2]; omega
 ·cases hw with
  |nil hs =>
   have:=hS v hs;rw[iK S this.1 this.2,if_pos hs]; omega
  |step=>simp at hl
 ·cases hw with
  |nil hs =>
   have:=hS u hs;exact(hu ((hg u this.1 this.2).2 hs)).elim
  |step=>simp at hl
 ·rw[iK S h0 h1] at hf;have:=mt (hg u h0 h1).2 hu;rw[if_neg this] at hf;exact(hf rfl).elim
 ·rw[iK S h0 h1] at hf ⊢
  split at hf
  ·rename_i hs;rw[if_pos hs]; exact⟨[],.nil hs⟩
  ·exact(hf rfl).elim
 ·rw[iK S h0 h1]
  split
  ·exact .inr (by simp[hM])
  ·exact .inl rfl
 ·have h1:=hr v hv;rw[iK S h1.1 h1.2,if_pos ((hg v h1.1 h1.2).1 hv)]; simp
 ·have h1:=hr v hv;rw[iK S h1.1 h1.2,if_pos ((hg v h1.1 h1.2).1 hv)]; simp[ŋ]
structure Bad (L:List Lk) (N:Nat) (x:List Int) (w:List Bool) (t q:List Int):Prop where
 lx:x.length=N
 lw:w.length=N
 lt:t.length=N
 nodup:q.Nodup
 rng:∀v∈q,0≤v∧v<N
 waits:∀v:Int,0≤v→v<N→(wv w v=true↔v∈q)
 t0:∀v:Int,0≤v→v<N→0≤gv t v∧gv t v≤(N:Int)+1
 bd:∀v:Int,0≤v→v<N→-2305843009213693952≤gv x v∧gv x v≤0
 rel:∀u:Int,0≤u→u<N→u∉q→∀v m,(u,v,m)∈L→gv x v≤gv x u+m
def afg {r:Option ρ} {x:List Int} {w:List Bool} {t q:List Int} (hL:iy L N M) (hp:¬∃p,Pot L p) (k0:(Val (.pair .bool (.pair (.slice tI) (.pair (.slice .bool) (.pair (.slice tI) (.slice tI))))))→Option ρ)
 (hK:∀x w t q,k0 (false,x,w,t,q)=r) (h:Bad L N x w t q) :
 Ë (fun(v64:(Val (.pair (.slice tI) (.pair (.slice .bool) (.pair (.slice tI) (.slice tI)))))) kk69=>Ħ [] (IG L) (N:Int) L v64.1 v64.2.1 v64.2.2.1 v64.2.2.2 (fun u65 u66 u67 u68=>kk69 (u65,u66,u67,u68)) k0) (x,w,t,q)=r:=by
 refine Ě (fun s:List Int×List Bool×List Int×List Int=>Bad L N s.1 s.2.1 s.2.2.1 s.2.2.2) (fun s=>RM N s.2.2.1) ?_ h;rintro⟨x,w,t,q⟩ h;dsimp only at h ⊢;have hN:=hL.nodes
 cases q with
 |nil =>
  exfalso;exact hp ⟨gv x,fun u v m hl=>h.rel u (hL.inr _ hl).1.1 (hL.inr _ hl).1.2 (by simp) v m hl⟩
 |cons n rest =>
  have hnr:=h.rng n (by simp);have hb:=h.bd n hnr.1 hnr.2;have ht:=h.t0 n hnr.1 hnr.2
  have hrl:rest.length≤1000000:=by
   have:=Y4 N (n::rest) h.nodup h.rng;simp only[cN] at this;omega
  have hout:=fun(kn:List Int→List Bool→List Int→List Int→Option ρ)=>Zh (ρ:=ρ) hL (least:=IG L) hnr h.lx h.lw h.lt hrl ⟨hb.1,by omega⟩ ⟨ht.1,by omega⟩ kn k0
  by_cases hlt:(N:Int)+1<gv t n+1
  ·exact .inl fun kn=>by rw[hout,if_pos hlt]; exact hK _ _ _ _
  ·have hw':(w.set n.toNat false).length=N:=by rw[eR]; exact h.lw
   cases hr:pR n (IG L) L x (w.set n.toNat false) rest with
   |mk b r' =>
   obtain⟨x',w',q'⟩:=r'
   cases b with
   |false=>exact .inl fun kn=>by rw[hout,if_neg hlt,hr]; exact hK _ _ _ _
   |true =>
    have hnd:=h.nodup;rw[eG] at hnd
    have htl:n.toNat<t.length:=by have:=h.lt; omega
    have ha:=ks hnr hL.inr hL.noloop h.lx hw' hnd.2 (fun v h0 h1=>by
     rw[Yy hnr.1 h0 (by have:=h.lw; omega)]
     by_cases hv:v=n
     ·subst hv; simp[hnd.1]
     ·rw[if_neg hv,h.waits v h0 h1]
      simp[hv]) hr
    obtain⟨l,hl,hlv⟩:=ha.new;refine .inr ⟨(x',w',t.set n.toNat (gv t n+1),q'),⟨ha.lx,ha.lw,by rw[eR]; exact h.lt,ha.nodup,fun v hv=>?_,ha.waits,fun v h0 h1=>?_,fun v h0 h1=>?_,fun u h0 h1 hu v m hlk=>?_⟩,Vj htl (by omega),fun kn=>by rw[hout,if_neg hlt,hr]⟩
    ·dsimp only at hv;rw[hl] at hv;rcases List.mem_append.1 hv with hv|hv
     ·exact h.rng v (by simp[hv])
     ·exact(hlv v hv).1
    ·try dsimp only
     rw[rJ hnr.1 h0 htl];have:=h.t0 v h0 h1
     split<;>omega
    ·try dsimp only
     have h2:=h.bd v h0 h1;rcases ha.chg v h0 h1 with g|⟨_,g2,m,g3,g4,g5⟩
     ·rw[g]; exact h2
     ·have h3:=WU (L:=L) (fun l hl=>(hL.most l hl).1) hL.m0;have h4:(L.length:Int)*M≤400*4503599627370496:=fP (by have:=hL.len; omega) hL.m1 hL.m0 (by omega);omega
    ·dsimp only at hu ⊢;have hvr:=(hL.inr _ hlk).2
     have heq:gv x' u=gv x u:=by
      rcases ha.chg u h0 h1 with g|⟨g,_⟩
      ·exact g
      ·exact(hu g).elim
     by_cases hun:u=n
     ·subst hun;have h1:=ha.link v m hlk;omega
     ·have hur:u∉n::rest:=by
       intro hc;rcases cF.1 hc with e|hc
       ·exact hun e
       ·exact hu (by rw[hl]; exact dt _ hc)
      have h2:=h.rel u h0 h1 hur v m hlk;have:=ha.le v hvr.1 hvr.2;omega
end
def abK (N:Nat) (v:Int):Bool:=decide (0≤v)&&decide (v<(N:Int))
def acQ (s:Int) (v:Int):Bool:=v==s
def S6 (N:Nat):uA (abK N) N=List.replicate N 0:=by
 refine ZC (by simp[ï]) fun v h0 h1=>?_;rw[ï] at h1;rw[iK _ h0 h1]
 have:abK N v=true:=by simp[abK,h0,h1]
 rw[if_pos this];unfold gv;rw[List.getElem?_replicate]
 split<;>rfl
def ň (L:List Lk) (N:Nat):List Int:=kF L N (uA (abK N) N)
def Μ (L:List Lk) (N:Nat):Bool:=decide (HA L (ň L N)=ň L N)
def kh (L:List Lk) (N:Nat) (s:Int):List Int:=kF L N (uA (acQ s) N)
section
variable {L:List Lk} {N:Nat} {M:Int}
def afF (hL:iy L N M) (hN:N≤200):N*M<ŋ:=by
 have:(N:Int)*M≤200*4503599627370496:=Int.mul_le_mul (by omega) hL.m1 hL.m0 (by omega);unfold ŋ;omega
def yI {p:Int→Int} (hL:iy L N M) (hN:N≤200) (hp:Pot L p):abN L (fun v=>abK N v=true) N (gv (ň L N)) :=
 Jo hp hL.inr (fun v h=>by simpa[abK] using h) (fun l hl=>(hL.most l hl).2) hL.m0 (afF hL hN) N (by omega)
def kg {p:Int→Int} (hL:iy L N M) (hN:N≤200) (hp:Pot L p) {s:Int} (hs:0≤s∧s<N):abN L (fun v=>acQ s v=true) N (gv (kh L N s)) :=
 Jo hp hL.inr (fun v h=>by simp[acQ] at h; subst h; exact hs) (fun l hl=>(hL.most l hl).2) hL.m0 (afF hL hN) N (by omega)
def Tu:∀{L:List Lk} {x:List Int},(∀u v m,(u,v,m)∈L→gv x u<ŋ→gv x v≤gv x u+m)→HA L x=x
 |[],x,_=>rfl
 |l::t,x,h=>by
  have h1:lO x l=x:=by
   unfold lO
   split
   ·rename_i hc;have:=h l.1 l.2.1 l.2.2 (by simp) hc.1;omega
   ·rfl
  show HA t (lO x l)=x;rw[h1];exact Tu fun u v m hm=>h u v m (by simp[hm])
def Ų (hL:iy L N M) (hN:N≤200):Μ L N=true↔∃p,Pot L p:=by
 unfold Μ;rw[decide_eq_true_eq]
 have hle:∀v:Int,0≤v→v<N→gv (ň L N) v≤0:=by
  intro v h0 h1;have:=Cr hL.inr N (ï (abK N) N) v h0;rw[iK _ h0 h1,if_pos (by simp[abK,h0,h1])] at this;exact this
 constructor
 ·intro h;refine⟨gv (ň L N),fun u v m hl=>?_⟩;have hr:=(hL.inr _ hl).1;have:=E9 hL.inr (x:=ň L N) (by unfold ň; rw[Ġ,ï]) u v m hl (by have:=hle u hr.1 hr.2; unfold ŋ; omega)
  rwa [h] at this
 ·rintro⟨p,hp⟩;have hd:=yI hL hN hp;exact Tu fun u v m hl hf=>hd.pot hL.inr hl (by omega)
end
section
variable {ρ:Type} {L:List Lk} {N:Nat} {M:Int}
def Ef (hN:N≤1000) (x:Option ρ):ç ((ile (0:Int) (N:Int))&&(î (Int.toNat (N:Int)))) x=x:=by
 rw[cP,Ø (by omega)]
 have:((ile (0:Int) (N:Int))&&true)=true:=by simp[ile]
 rw[this,Am.iff_true]
def WH (hL:iy L N M) (h1:1≤N) (hN:N≤200) (k0:(Val (.pair .bool (.pair (.slice tI) (.pair (.slice .bool) (.pair (.slice tI) (.slice tI))))))→Option ρ) {rT rF:Option ρ}
 (hT:Μ L N=true→∀w t q,k0 (true,ň L N,w,t,q)=rT) (hF:∀x w t q,k0 (false,x,w,t,q)=rF) :
 (Ë (fun(v70:(Val (.pair tI (.pair (.slice .bool) (.slice tI))))) kk74=>Ř (N:Int) (List.replicate N (0:Int)) v70.1 v70.2.1 v70.2.2 (fun u71 u72 u73=>kk74 (u71,u72,u73)) (fun z9=>Ë (fun(v64:(Val (.pair (.slice tI) (.pair (.slice .bool) (.pair (.slice tI) (.slice tI)))))) kk69=>Ħ [] (IG L) (N:Int) L v64.1 v64.2.1 v64.2.2.1 v64.2.2.2 (fun u65 u66 u67 u68=>kk69 (u65,u66,u67,u68)) k0) ((List.replicate N (0:Int)),z9.1,(List.replicate N (0:Int)),z9.2))) ((0:Int),(List.replicate N false),([]:List Int)))=if Μ L N then rT else rF:=by
 refine ach (by simp) (by omega) _ fun w q hw hq hr hwq hqs=>?_
 try dsimp only
 have hS:∀v,abK N v=true→0≤v∧v<N:=fun v h=>by simpa[abK] using h
 by_cases ho:Μ L N=true
 ·rw[if_pos ho];obtain⟨p,hp⟩:=(Ų hL hN).1 ho;have hs:=Oq hL h1 hS hw hq hr hwq (fun v a b=>by rw[S6]; exact hqs v a b);rw[S6] at hs;refine S7 hL (afF hL hN) hp hS k0 (fun x w t q hx hd=>?_) hs
  have:x=ň L N:=by
   refine ZC (by rw[hx]; unfold ň; rw[Ġ,ï]) fun v a b=>?_;exact hd.uniq (yI hL hN hp) a (by omega)
  rw[this]; exact hT ho w t q
 ·rw[if_neg ho];refine afg hL (fun hp=>ho ((Ų hL hN).2 hp)) k0 hF ?_
  have hg:∀v,gv (List.replicate N (0:Int)) v=0:=by
   intro v;unfold gv;rw[List.getElem?_replicate]
   split<;>rfl
  refine⟨by simp,hw,by simp,hq,hr,hwq,fun v a b=>?_,fun v a b=>?_,fun u a b hu v m hl=>?_⟩
  ·rw[hg]; omega
  ·rw[hg]; omega
  ·exact(hu ((hqs u a b).2 (by rw[hg]; unfold ŋ; omega))).elim
end
def shift_ok {ρ:Type} {x:List Int} (f:Int) (hx:x.length≤1000) (hf : -2305843009213693952≤f∧f≤2305843009213693952) (hb:∀a∈x,-2305843009213693952≤a∧a≤2305843009213693952) (k0:List Int→Option ρ) :
 Ë (fun(v60:(Val (.pair tI (.slice tI)))) kk63=>iW f (Ú x) v60.1 v60.2 (fun u61 u62=>kk63 (u61,u62)) k0) ((0:Int),x)=k0 (x.map fun a=>a-f):=by
 refine ĩ x (fun i=>(x.take i).map (fun a=>a-f)++x.drop i) _ (by simp) (fun i a hi ha kn=>?_) (fun kn=>?_)
 ·try dsimp only
  unfold iW
  have hlen:((x.take i).map (fun a=>a-f)++x.drop i).length=x.length:=by simp; omega
  have hget:((x.take i).map (fun a=>a-f)++x.drop i)[i]?=some a:=by
   rw[fI (by simp; omega)];simp only[dl,cT,d8];rw[←ha]; congr 1; omega
  have hi':i<((x.take i).map (fun a=>a-f)++x.drop i).length:=by omega
  have ha':=hb a (cG ha);rw[Ó hi,ũ hi',Ę hget,Ô (by omega) (by omega),ũ hi',Ę hget,Í hi (by omega),cP,take_succ ha];congr 2;rw[du hi,eT,cJ,f9 _ _ (by simp; omega)]
  have:i-(List.map (fun a=>a-f) (List.take i x)).length=0:=by simp; omega
  rw[this]
  have h1:x[i]=a:=by rw[cw hi] at ha; simpa using ha
  simp[h1]
 ·try dsimp only
  unfold iW;rw[ß];simp
section
variable {L:List Lk} {N:Nat} {M:Int}
def YO (hL:iy L N M) (hN:N≤200) (ho:Μ L N=true):∀a∈ň L N,-2305843009213693952≤a∧a≤0:=by
 obtain⟨p,hp⟩:=(Ų hL hN).1 ho;have hd:=yI hL hN hp;intro a ha;obtain⟨i,hi,rfl⟩:=cM.1 ha
 have hlen:(ň L N).length=N:=by unfold ň; rw[Ġ,ï]
 have h0:gv (ň L N) i=(ň L N)[i]:=by unfold gv; simp[hi]
 have hle:=Cr hL.inr N (ï (abK N) N) (i:Int) (by omega);rw[iK _ (by omega) (by omega),if_pos (by simp[abK]; omega)] at hle;have hle':gv (ň L N) i≤0:=hle;obtain⟨vs,hw⟩:=hd.att i (by omega) (by omega) (by unfold ŋ; omega);have h1:=hw.low' hp;have h3:=WU (L:=L) (fun l hl=>(hL.most l hl).1) hL.m0;have h4:(L.length:Int)*M≤400*4503599627370496:=Int.mul_le_mul (by have:=hL.len; omega) hL.m1 hL.m0 (by omega);omega
def SJ (L:List Lk) (N:Nat):List Int:=(ň L N).map fun a=>a-gv (ň L N) 0
def pm (hL:iy L N M) (h1:1≤N) (hN:N≤200):i7 ((N:Int),L) []=some (if Μ L N then(SJ L N,true) else([],false)):=by
 unfold i7 xJ
 try dsimp only
 rw[Ef (by omega),Ef (by omega),Ef (by omega),cP];refine dV (Zx hL _) ?_;refine dV (WH hL h1 hN _ (rT:=some (SJ L N,true)) (rF:=some ([],false)) (fun ho w t q=>?_) (fun x w t q=>?_)) ?_
 ·try dsimp only
  have hlen:(ň L N).length=N:=by unfold ň; rw[Ġ,ï]
  have hb:=YO hL hN ho;have h0:ilt (0:Int) (ñ (ň L N))=true:=decide_eq_true (show(0:Int)<((ň L N).length:Int) by omega);have hg:(ň L N)[0]?=some (gv (ň L N) 0):=Pn (v:=0) (show 0<_ by omega);have hm:=hb _ (cG hg);rw[show(!true)=false from rfl,é,Ć h0,jd hg];exact shift_ok _ (by omega) ⟨hm.1,by omega⟩ (fun a ha=>⟨(hb a ha).1,by have:=(hb a ha).2; omega⟩) _
 ·rfl
 ·cases Μ L N<;>rfl
structure ž (L:List Lk) (N:Nat):Prop where
 n1:1≤N
 n60:N≤60
 len:L.length≤300
 inr:InR L N
 noloop:∀l∈L,l.1≠l.2.1
 most:∀l∈L,-4503599627370496≤l.2.2∧l.2.2≤4503599627370496
def ž.links (h:ž L N):iy L N 4503599627370496 :=
 ⟨h.inr,h.noloop,h.most,by have:=h.len; omega,by have:=h.n60; omega,by omega,by omega⟩
def WT (n:Int) (L:List Lk) (v:Int):zh (n,L) v=some (decide (0≤v)&&decide (v<n)):=by
 unfold zh QM ige
 by_cases h:0≤v
 ·have:decide (v≥0)=true:=by simpa using h
  rw[Ù this]; simp[h]
 ·have:decide (v≥0)=false:=by simpa using h
  rw[Î this]; simp[h]
def jn (h:ž L N):nS ((N:Int),L)=some (0,-1):=by
 have h1:=h.n1;have h2:=h.n60;have h3:=h.len;unfold nS KK
 try dsimp only
 rw[Î (by simp[ilt]; omega),Î (by simp[igt]; omega),Î (by rw[Ñ]; simp[igt]; omega)];refine dV (jF L (fun _=>false) (fun i=>some (1,i)) (some (0,-1)) (fun i l hi hl kn=>?_) (fun kn=>?_)) ?_
 ·try dsimp only
  unfold rj;have hm:=List.mem_of_getElem? hl;have a:=h.inr l hm;have b:=h.noloop l hm;have c:=h.most l hm
  have e1:(decide (0≤l.1)&&decide (l.1<(N:Int)))=true:=by simp[a.1.1,a.1.2]
  have e2:(decide (0≤l.2.1)&&decide (l.2.1<(N:Int)))=true:=by simp[a.2.1,a.2.2]
  rw[Ó hi,È hl,WT,À,e1,WT,À,e2];simp only[dw,é,cQ,if_false];rw[Î (by simp[ieq,b]),Î (by simp[ilt]; omega),Î (by simp[igt]; omega),Í hi (by omega)]
 ·try dsimp only
  unfold rj;rw[ß]
 ·rw[dA.2 (by simp)]
def ke {ρ:Type} {x:List Int} {v:Int} (h0:0≤v) (h:v.toNat<x.length) (f:Int→Option ρ):đ x v f=f (gv x v):=by
 obtain⟨i,rfl⟩:=gF h0;exact È (Pn h) f
def Vu (L:List Lk) (x:List Int):Bool:=L.all fun l=>decide (gv x l.2.1≤gv x l.1+l.2.2)
def Wa (h:ž L N) {x:List Int} (hx:x.length=N) (hb:∀a∈x,-ŋ≤a∧a≤ŋ):IX ((N:Int),L) x=some (Vu L x&&gv x 0==0,0):=by
 have h1:=h.n1;have h2:=h.n60;have h3:=h.len;unfold IX QW;rw[jn h,À]
 try dsimp only
 rw[Î (by rfl),Î (by rw[Ñ,hx]; simp[ine])]
 have second:Ë (fun(v20:Int) kk22=>mr x L (Ú L) v20 (fun u21=>kk22 u21) (fun z17=>some (z17.1,z17.2)) (fun _=>đ x (0:Int) fun e19=>some (ieq e19 (0:Int),(0:Int)))) (0:Int)=some (Vu L x&&gv x 0==0,0):=by
  refine dV (Ň L (fun l=>!decide (gv x l.2.1≤gv x l.1+l.2.2)) (fun _=>some (false,0)) (some (false,0)) (some (gv x 0==0,0)) (fun _=>rfl) (fun i l hi hl kn=>?_) (fun kn=>?_)) ?_
  ·try dsimp only
   unfold mr;have hm:=List.mem_of_getElem? hl;have a:=h.inr l hm;have c:=h.most l hm
   have g1:l.1.toNat<x.length:=by omega
   have hg:=hb _ (List.mem_of_getElem? (Pn g1));unfold ŋ at hg;rw[Ó hi,È hl,ke a.2.1 (by omega),ke a.1.1 g1,Ô (by omega) (by omega),Í hi (by omega),Č]
   by_cases hle:gv x l.2.1≤gv x l.1+l.2.2
   ·rw[if_neg (by simp[igt]; omega),if_neg (by simp[hle])]
   ·rw[if_pos (by simp[igt]; omega),if_pos (by simp[hle])]
  ·try dsimp only
   unfold mr;rw[ß,ke (by omega) (by rw[Int.toNat_zero]; omega)]
  ·unfold Vu;rw[show(L.any fun l=>!decide (gv x l.2.1≤gv x l.1+l.2.2))=!(L.all fun l=>decide (gv x l.2.1≤gv x l.1+l.2.2)) from by rw[List.all_eq_not_any_not]; simp]
   cases(L.all fun l=>decide (gv x l.2.1≤gv x l.1+l.2.2))<;>rfl
 refine dV (Ň x (fun _=>false) (fun z4=>ifb (ige z4 (0:Int)) (some (false,(1:Int))) (some (Vu L x&&gv x 0==0,0))) (some (false,1)) (some (Vu L x&&gv x 0==0,0)) (fun j=>?_) (fun i a hi ha kn=>?_) (fun kn=>?_)) ?_
 ·rw[Ù (by simp[ige])]
 ·try dsimp only
  unfold vf;have hg:=hb a (List.mem_of_getElem? ha);unfold ŋ at hg;rw[Ó hi,È ha,Î (by simp[ilt]; omega),Î (by simp[igt]; omega),Í hi (by omega)];simp
 ·try dsimp only
  unfold vf;rw[ß];exact second
 ·simp
end
section
variable {b:Ď}
def vP (b:Ď) (g:ÿ):(ã b g).Pairwise (·<·):=WB _
def Vz (h:ū b) {g:ÿ} (hg:g∈b.2.1):∃t,ã b g=g.2.1::t:=by
 have h1:=vP b g;have h2:=rQ (b:=b) g;have h3:∀d∈ã b g,g.2.1≤d:=fun d hd=>(h.day hg hd).1
 cases hd:ã b g with
 |nil=>rw[hd] at h2; cases h2
 |cons a t =>
  rw[hd] at h1 h2 h3;rw[dk] at h1;rcases cF.1 h2 with e|e
  ·exact⟨t,by rw[e]⟩
  ·have:=h1.1 _ e;have:=h3 a (by simp);omega
def off (b:Ď) (i:Nat):Nat:=((b.2.1.take i).flatMap fun g=>(ã b g).map fun d=>((g.1,d):Int×Int)).length
def Bg {i:Nat} {g:ÿ} (hg:b.2.1[i]?=some g):É b=((b.2.1.take i).flatMap fun g=>(ã b g).map fun d=>((g.1,d):Int×Int))++(((ã b g).map fun d=>((g.1,d):Int×Int))++((b.2.1.drop (i+1)).flatMap fun g=>(ã b g).map fun d=>((g.1,d):Int×Int))):=by
 obtain⟨hi,rfl⟩:=cB.1 hg
 have h1:b.2.1=b.2.1.take i++(b.2.1[i]::b.2.1.drop (i+1)):=by
  rw[←du hi,dK]
 unfold É
 conv=>lhs; rw[h1]
 rw[fB,dz]
def Qd (h:ū b) {i:Nat} {g:ÿ} (hg:b.2.1[i]?=some g) {k:Nat} {d:Int} (hk:(ã b g)[k]?=some d):jx (É b) g.1 d=some (off b i+k):=by
 obtain⟨hi,hgi⟩:=List.getElem?_eq_some_iff.1 hg;obtain⟨hkl,hkd⟩:=List.getElem?_eq_some_iff.1 hk;unfold jx;rw[Bg hg,List.findIdx?_append,List.findIdx?_append]
 have h1:List.findIdx? (fun n:Int×Int=>decide (g.1=n.1)&&decide (d=n.2)) ((b.2.1.take i).flatMap fun g=>(ã b g).map fun d=>((g.1,d):Int×Int))=none:=by
  rw[dA];intro x hx;obtain⟨g',hg',hx⟩:=dg.1 hx;obtain⟨d',_,rfl⟩:=dj.1 hx;obtain⟨j,hj,rfl⟩:=cM.1 hg';rw[cT] at hj;rw[eQ];have:=(df.1 h.ids) j i (by omega) hi (by omega);rw[hgi] at this;simp only[gL,decide_eq_false_iff_not];exact .inl (by omega)
 have h2:List.findIdx? (fun n:Int×Int=>decide (g.1=n.1)&&decide (d=n.2)) ((ã b g).map fun d=>((g.1,d):Int×Int))=some k:=by
  rw[dJ];refine⟨by simpa using hkl,by simp[hkd],fun j hj=>?_⟩;have:=(df.1 (vP b g)) j k (by omega) hkl hj;rw[hkd] at this;simp only[List.getElem_map,cA,decide_eq_true_eq,not_and];intro _;omega
 rw[h1,h2];simp only[Option.map_some,Option.some_or,Option.none_or];unfold off;congr 1;omega
def afD {i:Nat} {g:ÿ} (hg:b.2.1[i]?=some g) {k:Nat} {d:Int} (hk:(ã b g)[k]?=some d):(É b)[off b i+k]?=some (g.1,d):=by
 obtain⟨hkl,hkd⟩:=List.getElem?_eq_some_iff.1 hk;rw[Bg hg,List.getElem?_append_right (by unfold off; omega),List.getElem?_append_left (by unfold off; simp; omega)];unfold off;simp[hk]
def agy (h:ū b) {i:Nat} {g:ÿ} (hg:b.2.1[i]?=some g):atP (É b) [g.1] g.2.1=(off b i:Int)+1:=by
 obtain⟨t,ht⟩:=Vz h (List.mem_of_getElem? hg);have:=Qd h hg (k:=0) (d:=g.2.1) (by rw[ht]; rfl);unfold atP;simp only[this];rfl
def ahL (h:ū b) {i:Nat} {g:ÿ} (hg:b.2.1[i]?=some g):off b i+(ã b g).length≤(É b).length:=by
 rw[Bg hg];unfold off;simp only[List.length_append,List.length_map];omega
def afB {i:Nat} {g:ÿ} (hg:b.2.1[i]?=some g):off b (i+1)=off b i+(ã b g).length:=by
 unfold off;rw[take_succ hg,List.flatMap_append];simp
def TP (h:ū b) {c:Cmp} (hc:c∈b.2.2.2.2.1) {x:Int} (hx:(x∈c.2.2.1∧x∉c.2.2.2.1)∨(x∈c.2.2.2.1∧x∉c.2.2.1)):∃j,jx (É b) x c.2.1=some j:=by
 have hm:x∈c.2.2.1++c.2.2.2.1:=by rw[cE]; exact hx.imp (·.1) (·.1)
 obtain⟨⟨g,hg,_⟩,_⟩:=h.pile hc hm;obtain⟨hgm,hgx⟩:=ig hg;obtain⟨i,hi,hgi⟩:=cM.1 hgm
 have hd:c.2.1∈ã b g:=Ž.2 (.inr (.inl ⟨c,hc,by
  rw[hgx];rcases hx with⟨h1,h2⟩|⟨h1,h2⟩
  ·have e1:c.2.2.1.contains x=true:=by simpa using h1
   have e2:c.2.2.2.1.contains x=false:=by simpa using h2
   rw[e1,e2]; simp
  ·have e1:c.2.2.2.1.contains x=true:=by simpa using h1
   have e2:c.2.2.1.contains x=false:=by simpa using h2
   rw[e1,e2]; simp,rfl⟩))
 obtain⟨k,hk,hkd⟩:=cM.1 hd;have:=Qd h (g:=g) (i:=i) (by rw[cw hi,hgi]) (k:=k) (d:=c.2.1) (by rw[cw hk,hkd]);rw[hgx] at this;exact⟨_,this⟩
inductive abF (b:Ď) (p:List Int) (d:Int) (n:Int):Prop
 |none:p=[]→n=0→abF b p d n
 |one (x:Int) (j:Nat):p=[x]→jx (É b) x d=some j→n=(j:Int)+1→abF b p d n
def ad3 (h:ū b) {c:Cmp} (hc:c∈b.2.2.2.2.1):abF b (þ c.2.2.1 c.2.2.2.1) c.2.1 (cx b c):=by
 have hl:=(h.lefts hc).1
 cases hp:þ c.2.2.1 c.2.2.2.1 with
 |nil=>exact .none rfl (by unfold cx atP; rw[hp])
 |cons x t =>
  rw[hp] at hl
  have:t=[]:=by cases t with|nil=>rfl|cons=>simp at hl
  subst this;obtain⟨j,hj⟩:=TP h hc (x:=x) (.inl (nN.1 (by rw[hp]; simp)));exact .one x j rfl hj (by unfold cx atP; rw[hp]; simp only[hj])
def Ya (h:ū b) {c:Cmp} (hc:c∈b.2.2.2.2.1):abF b (þ c.2.2.2.1 c.2.2.1) c.2.1 (cy b c):=by
 have hl:=(h.lefts hc).2.1
 cases hp:þ c.2.2.2.1 c.2.2.1 with
 |nil=>exact .none rfl (by unfold cy atP; rw[hp])
 |cons x t =>
  rw[hp] at hl
  have:t=[]:=by cases t with|nil=>rfl|cons=>simp at hl
  subst this;obtain⟨j,hj⟩:=TP h hc (x:=x) (.inr (nN.1 (by rw[hp]; simp)));exact .one x j rfl hj (by unfold cy atP; rw[hp]; simp only[hj])
def abF.rng {p:List Int} {d n:Int} (h:abF b p d n):0≤n∧n<((É b).length+1:Nat):=by
 rcases h with⟨_,h⟩|⟨x,j,_,h1,h2⟩
 ·omega
 ·have:=(km h1).1;omega
def age (h:ū b) {c:Cmp} (hc:c∈b.2.2.2.2.1):cx b c≠cy b c:=by
 have hl:=(h.lefts hc).2.2;rcases ad3 h hc with⟨h1,h2⟩|⟨x,j,h1,h2,h3⟩
 ·rcases Ya h hc with⟨g1,g2⟩|⟨y,k,g1,g2,g3⟩
  ·rw[h1,g1] at hl; simp at hl
  ·omega
 ·rcases Ya h hc with⟨g1,g2⟩|⟨y,k,g1,g2,g3⟩
  ·omega
  ·intro e
   have:j=k:=by omega
   subst this;have e1:=(km h2).2;have e2:=(km g2).2;rw[e1] at e2;simp only[Option.some.injEq,Prod.mk.injEq] at e2
   have m1:x∈þ c.2.2.1 c.2.2.2.1:=by rw[h1]; simp
   have m2:y∈þ c.2.2.2.1 c.2.2.1:=by rw[g1]; simp
   rw[e2.1] at m1;exact(nN.1 m1).2 (nN.1 m2).1
def Vg (h:ū b):(ķ b).length=2*(É b).length+2*b.2.2.2.2.1.length:=by
 have h1:∀l:List ÿ,(∀g∈l,g∈b.2.1)→(l.flatMap (Ő b)).length=2*(l.flatMap fun g=>(ã b g).map fun d=>((g.1,d):Int×Int)).length:=by
  intro l
  induction l with
  |nil=>intro _; rfl
  |cons g t ih =>
   intro hm;have:=ih fun g hg=>hm g (by simp[hg]);have hp:=List.length_pos_of_mem (rQ (b:=b) g);simp only[List.flatMap_cons,List.length_append,List.length_map,this];unfold Ő;rw[List.length_append,pl _ _ (fun _=>rfl)];simp only[List.length_cons,List.length_nil];omega
 have h2:∀l:List Cmp,(l.flatMap (i9 b)).length=2*l.length:=by
  intro l
  induction l with
  |nil=>rfl
  |cons c t ih =>
   simp only[dz,cD,ih,i9,cN,dN];omega
 unfold ķ;rw[List.length_append,h1 _ fun _ h=>h,h2];rfl
def Ļ (h:ū b) {i:Nat} {g:ÿ} (hg:b.2.1[i]?=some g) {l:Lk}:l∈Ő b g ↔
 l=(0,(off b i:Int)+1,g.2.2.1+g.2.2.2.1.2)∨l=((off b i:Int)+1,0,-(g.2.2.1+g.2.2.2.1.1)) ∨
 ∃(k:Nat) (d e:Int),(ã b g)[k]?=some d∧(ã b g)[k+1]?=some e∧(l=((off b i:Int)+k+1,(off b i:Int)+k+2,0)∨l=((off b i:Int)+k+2,(off b i:Int)+k+1,lg b g d e)):=by
 unfold Ő;rw[agy h hg];simp only[List.mem_append,List.mem_cons,List.not_mem_nil,or_false,List.mem_flatMap,List.mem_range];constructor
 ·rintro((h1|h1)|⟨k,hk,h1⟩)
  ·exact .inl h1
  ·exact .inr (.inl h1)
  ·refine .inr (.inr ⟨k,(ã b g)[k],(ã b g)[k+1],cw (by omega),cw (by omega),?_⟩);rw[cw (show k<(ã b g).length by omega),cw (show k+1<(ã b g).length by omega)] at h1;simp only[gK] at h1
   have e1:(off b i:Int)+1+k=(off b i:Int)+k+1:=by omega
   have e2:(off b i:Int)+k+1+1=(off b i:Int)+k+2:=by omega
   rw[e1,e2] at h1;exact h1
 ·rintro(h1|h1|⟨k,d,e,hd,he,h1⟩)
  ·exact .inl (.inl h1)
  ·exact .inl (.inr h1)
  ·obtain⟨h2,rfl⟩:=cB.1 hd;obtain⟨h3,rfl⟩:=cB.1 he;refine .inr ⟨k,by omega,?_⟩;rw[hd,he];simp only[gK]
   have e1:(off b i:Int)+1+k=(off b i:Int)+k+1:=by omega
   have e2:(off b i:Int)+k+1+1=(off b i:Int)+k+2:=by omega
   rw[e1,e2];exact h1
def o9 {l:Lk}:l∈ķ b↔(∃(i:Nat) (g:ÿ),b.2.1[i]?=some g∧l∈Ő b g)∨∃c∈b.2.2.2.2.1,l=(cy b c,cx b c,(wP b c).2)∨l=(cx b c,cy b c,-(wP b c).1):=by
 unfold ķ;simp only[List.mem_append,List.mem_flatMap,i9,List.mem_cons,List.not_mem_nil,or_false];constructor
 ·rintro(⟨g,hg,h⟩|h)
  ·obtain⟨i,hi,rfl⟩:=cM.1 hg;exact .inl ⟨i,_,cw hi,h⟩
  ·exact .inr h
 ·rintro(⟨i,g,hg,h⟩|h)
  ·exact .inl ⟨g,cG hg,h⟩
  ·exact .inr h
def ū.sys (h:ū b):ž (ķ b) ((É b).length+1):=by
 have hN:=h.nodes;have hL:=h.links
 have key:∀l∈ķ b,((0≤l.1∧l.1<((É b).length+1:Nat))∧(0≤l.2.1∧l.2.1<((É b).length+1:Nat)))∧l.1≠l.2.1∧(-4503599627370496≤l.2.2∧l.2.2≤4503599627370496):=by
  intro l hl;rcases o9.1 hl with⟨i,g,hg,hl⟩|⟨c,hc,hl⟩
  ·have hgm:=cG hg;have hr:=h.gaugeR hgm;have ho:=ahL h hg;have hp:=List.length_pos_of_mem (rQ (b:=b) g);have r1:=hr.2.2.2.2.2.1;have r2:=hr.2.2.2.2.2.2.1;rcases(Ļ h hg).1 hl with rfl|rfl|⟨k,d,e,hd,he,h1⟩
   ·dsimp only; omega
   ·dsimp only; omega
   ·obtain⟨h2,_⟩:=cB.1 he;have d1:=h.day hgm (cG hd);have lb:=vB h hgm (t:=e) d1.2.1;rcases h1 with rfl|rfl
    ·dsimp only; omega
    ·dsimp only; omega
  ·have a:=(ad3 h hc).rng;have b':=(Ya h hc).rng;have ne:=age h hc;have sb:=Je h hc;rcases hl with rfl|rfl
   ·dsimp only; omega
   ·dsimp only; omega
 exact⟨by omega,by omega,by rw[Vg h]; omega,fun l hl=>(key l hl).1,fun l hl=>(key l hl).2.1,fun l hl=>(key l hl).2.2⟩
end
def rB (b:Ď) (x:List Int):Bool:=decide (x.length=(É b).length)&&x.all fun n=>inP n (-4503599627370496) 4503599627370496
def aa2 {m:Maker} {x:List Int} (hn:m.2.1.length≤1000000):jk m x=some (if decide (x.length=m.2.1.length)&&x.all fun n=>inP n (-4503599627370496) 4503599627370496 then 0 else 1):=by
 unfold jk mw
 by_cases hl:x.length=m.2.1.length
 ·rw[Î (by rw[Ñ,Ñ,hl]; simp[ine])];refine dV (Ň x (fun n=>!inP n (-4503599627370496) 4503599627370496) (fun z=>ifb (ige z 0) (some 1) (some 0)) (some 1) (some 0) (fun j=>?_) (fun i a hi ha kn=>?_) (fun kn=>?_)) ?_
  ·rw[Ù (by simp[ige])]
  ·try dsimp only
   unfold ξ;rw[Ó hi,È ha,Κ,À,Í hi (by omega),Č]
  ·try dsimp only
   unfold ξ;rw[ß]
  ·rw[show(x.any fun n=>!inP n (-4503599627370496) 4503599627370496)=!(x.all fun n=>inP n (-4503599627370496) 4503599627370496) from by rw[gH]; simp]
   cases(x.all fun n=>inP n (-4503599627370496) 4503599627370496)<;>simp[hl]
 ·rw[Ù (by rw[Ñ,Ñ]; simp[ine]; omega)];simp[hl]
def adE (b:Ď) (x:List Int):Bool:=Vu (ķ b) (0::x)
def Oi (b:Ď) (x:List Int):Bool×Int:=if ę b≠0 then(false,ę b) else if rB b x then(adE b x,0) else(false,1)
def T0 {b:Ď} (h:ū b) {x:List Int} (hx:rB b x=true) (src:List (Int×Int)):mR (b,É b,(((É b).length:Int)+1,ķ b),src) x=some (adE b x):=by
 simp only[rB,Bool.and_eq_true,decide_eq_true_eq,List.all_eq_true,inP] at hx;have hN:=h.nodes;unfold mR sl;rw[Ć (Ø (by simp only[List.length_singleton]; omega))]
 have:=Wa h.sys (x:=[0]++x) (by simp; omega) (fun a ha=>by
  unfold ŋ;rcases List.mem_append.1 ha with ha|ha
  ·simp at ha; omega
  ·have:=hx.2 a ha; omega)
 rw[show(((É b).length:Int)+1)=(((É b).length+1:Nat):Int) by push_cast; rfl]
 try dsimp only
 rw[this,À];unfold adE;have e:gv ([0]++x) 0=0:=rfl;rw[e];simp
def ais {b:Ď} (hs:wu b) (hr:∀g∈b.2.1,I64 g.2.2.2.2.1.1) (x:List Int):IZ b x=some (Oi b x):=by
 unfold IZ RF Oi;rw[vY hs hr,À]
 by_cases hc:ę b=0
 ·have h:=(Ģ b).1 hc;have hN:=h.nodes;rw[Î (by simp[ine,hc]),Zn h,À,aa2 (by dsimp only; omega),À,if_neg (show ¬(ę b≠0) from fun h=>h hc)];rw[show(decide (x.length=(b,É b,(((É b).length:Int)+1,ķ b),Iz b).2.1.length)&&x.all fun n=>inP n (-4503599627370496) 4503599627370496)=rB b x from rfl]
  cases hl:rB b x with
  |false=>rfl
  |true =>
   rw[if_pos rfl,Î (by rfl),T0 h hl,À,if_pos rfl]
 ·rw[Ù (by simp[ine,hc]),if_pos hc]
def Wp (b:Ď) (id day:Int):Bool:=b.2.2.1.any fun u=>u.1==id&&u.2==day
def ad0 (b:Ď) (g:ÿ) (d:Int):Int:=match lK b g.1 d with|some l=>l.2.2|none=>if Wp b g.1 d then g.2.2.2.2.2 else 0
def adc (l:MJ) (id:Int) {f t:Int} (hft:f≤t):(if l.1=id∧0<ė l f (t+1) then ė l f (t+1)*l.2.2 else 0)=(if l.1=id∧0<ė l f t then ė l f t*l.2.2 else 0)+(if l.1=id∧l.2.1.1≤t∧t≤l.2.1.2 then l.2.2 else 0):=by
 by_cases hid:l.1=id
 ·by_cases h1:l.2.1.1≤t∧t≤l.2.1.2
  ·have e:ė l f (t+1)=ė l f t+1:=by unfold ė; omega
   have p:0≤ė l f t:=by unfold ė; omega
   rw[e,if_pos ⟨hid,by omega⟩,if_pos (show l.1=id∧l.2.1.1≤t∧t≤l.2.1.2 from⟨hid,h1⟩),f5,gn]
   by_cases hp:0<ė l f t
   ·rw[if_pos ⟨hid,hp⟩]
   ·rw[if_neg (fun h=>hp h.2)]
    have:ė l f t=0:=by omega
    rw[this];omega
  ·rw[if_neg (show ¬(l.1=id∧l.2.1.1≤t∧t≤l.2.1.2) from fun h=>h1 h.2),gA]
   by_cases hlo:l.2.1.1≤t
   ·have e:ė l f (t+1)=ė l f t:=by unfold ė; omega
    rw[e]
   ·have p1:¬0<ė l f (t+1):=by unfold ė; omega
    have p2:¬0<ė l f t:=by unfold ė; omega
    rw[if_neg (fun h=>p1 h.2),if_neg (fun h=>p2 h.2)]
 ·rw[if_neg (fun h=>hid h.1),if_neg (fun h=>hid h.1),if_neg (fun h=>hid h.1)];rfl
def Pd (id:Int) {f t:Int} (hft:f≤t):∀{x:List MJ},x.Pairwise (fun a c=>¬(a.1=c.1∧a.2.1.1≤c.2.1.2∧c.2.1.1≤a.2.1.2)) →
 ĵ id f (t+1) x=ĵ id f t x+(match x.find? (fun l=>l.1==id&&inP t l.2.1.1 l.2.1.2) with|some l=>l.2.2|none=>0)
 |[],_=>rfl
 |l::r,hp=>by
  rw[dk] at hp;have ih:=Pd id hft hp.2;simp only[ĵ];rw[ih,adc l id hft,fj]
  by_cases hm:l.1=id∧l.2.1.1≤t∧t≤l.2.1.2
  ·have e:(l.1==id&&inP t l.2.1.1 l.2.1.2)=true:=by simp[inP,hm.1,hm.2.1,hm.2.2]
   have hn:r.find? (fun l=>l.1==id&&inP t l.2.1.1 l.2.1.2)=none:=by
    rw[dU];intro c hc hcm;simp only[inP,cA,beq_iff_eq,decide_eq_true_eq] at hcm;exact hp.1 c hc ⟨by rw[hm.1,hcm.1],by omega,by omega⟩
   rw[if_pos hm,e,hn];simp only;omega
  ·have e:(l.1==id&&inP t l.2.1.1 l.2.1.2)=false:=by
    rw[dR];intro h;simp only[inP,cA,beq_iff_eq,decide_eq_true_eq] at h;exact hm h
   rw[if_neg hm,e];simp only;omega
section
variable {b:Ď}
def ū.apart (h:ū b):b.2.2.2.1.Pairwise (fun a c=>¬(a.1=c.1∧a.2.1.1≤c.2.1.2∧c.2.1.1≤a.2.1.2)):=by
 rw[List.pairwise_iff_getElem];intro i j hi hj hij ⟨h1,h2,h3⟩;have hz:=h.loans j _ (List.getElem?_eq_getElem hj);unfold RK at hz
 have hany:(b.2.2.2.1.take j).any (fun x=>x.1==b.2.2.2.1[j].1&&(decide (x.2.1.1≤b.2.2.2.1[j].2.1.2)&&decide (b.2.2.2.1[j].2.1.1≤x.2.1.2)))=true:=by
  rw[dc];exact⟨b.2.2.2.1[i],cM.2 ⟨i,by rw[cT]; omega,by rw[eQ]⟩,by simp[h1,h2,h3]⟩
 rw[hany] at hz
 (repeat' split at hz)<;>first|omega|simp_all
def ū.notUsed (h:ū b) {id d:Int} {l:MJ} (hl:lK b id d=some l):Wp b id d=false:=by
 have hm:=fi hl;have hp:=fX hl;simp only[inP,cA,beq_iff_eq,decide_eq_true_eq] at hp;obtain⟨j,hj,rfl⟩:=cM.1 hm;have hz:=h.loans j _ (cw hj);rw[dR];intro hu;obtain⟨u,hu,hue⟩:=dc.1 hu;simp only[cA,beq_iff_eq] at hue
 have hany:b.2.2.1.any (fun u=>u.1==b.2.2.2.1[j].1&&inP u.2 b.2.2.2.1[j].2.1.1 b.2.2.2.1[j].2.1.2)=true:=by
  rw[dc];exact⟨u,hu,by simp only[inP,cA,beq_iff_eq,decide_eq_true_eq]; exact⟨by rw[hue.1,hp.1],by omega,by omega⟩⟩
 unfold RK at hz;rw[hany] at hz
 (repeat' split at hz)<;>first|omega|simp_all
def SQ {id f t:Int} (hft:f≤t):We (iG b id f (t+1))=We (iG b id f t)++if Wp b id t then[t] else[]:=by
 have hm:∀t x,x∈iG b id f t↔Wp b id x=true∧f≤x∧x<t:=by
  intro t x;unfold iG Wp;simp only[List.mem_map,List.mem_filter,List.any_eq_true,inP,Bool.and_eq_true,beq_iff_eq,decide_eq_true_eq];constructor
  ·rintro⟨u,⟨h1,h2,h3,h4⟩,rfl⟩;exact⟨⟨u,h1,h2,rfl⟩,h3,by omega⟩
  ·rintro⟨⟨u,h1,h2,rfl⟩,h3,h4⟩;exact⟨u,⟨h1,h2,h3,by omega⟩,rfl⟩
 refine aio (WB _) ?_ fun x=>?_
 ·rw[fM]
  refine⟨WB _,by split<;>simp,fun a ha c hc=>?_⟩
  rw[Cq,hm] at ha
  split at hc
  ·rw[cH] at hc; omega
  ·cases hc
 ·rw[Cq,hm,cE,Cq,hm]
  by_cases hu:Wp b id t=true
  ·rw[if_pos hu,cH];constructor
   ·rintro⟨h1,h2,h3⟩
    by_cases he:x=t
    ·exact .inr he
    ·exact .inl ⟨h1,h2,by omega⟩
   ·rintro(⟨h1,h2,h3⟩|rfl)
    ·exact⟨h1,h2,by omega⟩
    ·exact⟨hu,hft,by omega⟩
  ·rw[if_neg hu];constructor
   ·rintro⟨h1,h2,h3⟩;refine .inl ⟨h1,h2,?_⟩
    by_cases he:x=t
    ·rw[he] at h1; exact absurd h1 hu
    ·omega
   ·rintro(⟨h1,h2,h3⟩|h)
    ·exact⟨h1,h2,by omega⟩
    ·cases h
def U8 (h:ū b) (g:ÿ) {f t:Int} (hft:f≤t):lg b g f (t+1)=lg b g f t+ad0 b g t:=by
 unfold lg ad0;rw[Pd g.1 hft h.apart,SQ hft];show ĵ g.1 f t b.2.2.2.1+(match lK b g.1 t with|some l=>l.2.2|none=>0)+_=_
 cases ha:lK b g.1 t with
 |some l =>
  rw[h.notUsed ha];simp only[cQ,if_false,cW];omega
 |none =>
  simp only
  cases Wp b g.1 t with
  |true=>simp only[if_true,cD,dv,Int.natCast_add,f5]; omega
  |false=>simp only[cQ,if_false,cW]; omega
def U9 (g:ÿ) {f t:Int} (hft:t≤f):lg b g f t=0:=by
 unfold lg
 have h1:∀x:List MJ,ĵ g.1 f t x=0:=by
  intro x
  induction x with
  |nil=>rfl
  |cons l r ih =>
   simp only[ĵ];rw[ih,if_neg (by unfold ė; omega)];rfl
 have h2:iG b g.1 f t=[]:=by
  unfold iG
  rw[gJ.2 fun u hu hc=>by
   simp only[inP,cA,beq_iff_eq,decide_eq_true_eq] at hc
   omega]
  rfl
 rw[h1,h2];have h3:We ([]:List Int)=[]:=rfl;rw[h3];simp
end
def aeG {ρ:Type}:@vc ρ=@gX ρ:=rfl
def aeF {ρ:Type}:@uZ ρ=@Ř ρ:=rfl
def aeE {ρ:Type}:@uY ρ=@Ħ ρ:=rfl
def Vp {ρ:Type} {N:Nat} (hN:N≤1000) (x:Option ρ):ç ((ile (0:Int) (N:Int))&&(î N)) x=x:=by
 have:=Ef hN x
 rwa [cP] at this
section
variable {L:List Lk} {N:Nat} {M:Int}
def ace {s:Int} (hs:0≤s∧s<N):(List.replicate N ŋ).set s.toNat 0=uA (acQ s) N:=by
 refine ZC (by simp[ï]) fun v h0 h1=>?_
 have hv:v<N:=by simpa using h1
 rw[iK _ h0 hv,rJ hs.1 h0 (by simp; omega)];unfold acQ
 by_cases h:v=s
 ·simp[h]
 ·simp only[h,if_false,beq_iff_eq];unfold gv;rw[List.getElem?_replicate]
  have:v.toNat<N:=by omega
  simp[this]
def Mn (hL:iy L N M) (h1:1≤N) (hN:N≤200) (ho:Μ L N=true) {s:Int} (hs:0≤s∧s<N):pe ((N:Int),L) [] s=some (kh L N s):=by
 obtain⟨p,hp⟩:=(Ų hL hN).1 ho;unfold pe FN;rw[aeG,aeF,aeE];dsimp only;rw[Ef (by omega),Int.toNat_natCast];refine ĩ (List.replicate N (0:Int)) (fun i=>List.replicate i ŋ++List.replicate (N-i) 0) _ (by simp) (fun i a hi ha kn=>?_) (fun kn=>?_)
 ·dsimp only;unfold oF
  have hiN:i<N:=by simpa using hi
  have hl:i<(List.replicate i ŋ++List.replicate (N-i) (0:Int)).length:=by simp; omega
  rw[Ó hi,ũ hl,Ę (cw hl),Í hiN (by omega),cP];congr 2;rw[f9 _ _ (by simp)]
  have:N-i=(N-(i+1))+1:=by omega
  rw[this,fg,gP,fU,List.set_cons_zero,List.replicate_succ'];simp
 ·try dsimp only
  unfold oF;rw[ß];dsimp only
  have e0:List.replicate (List.replicate N (0:Int)).length ŋ++List.replicate (N-(List.replicate N (0:Int)).length) 0=List.replicate N ŋ:=by simp
  rw[e0]
  have hlen:s.toNat<(List.replicate N ŋ).length:=by simp; omega
  rw[show ñ (List.replicate N ŋ)=((N:Nat):Int) by simp[ñ],Δ hs.1 hs.2,j6 hlen,Vp (by omega),Vp (by omega),ace hs];refine dV (Zx hL _) ?_
  have hS:∀v,acQ s v=true→0≤v∧v<N:=fun v h=>by simp[acQ] at h; subst h; exact hs
  refine ach (ï _ _) (by omega) _ fun w q hw hq hr hwq hqs=>?_;have hs0:=Oq hL h1 hS hw hq hr hwq hqs;refine S7 hL (afF hL hN) hp hS _ (fun x w t q hx hd=>?_) hs0
  have:x=kh L N s:=by
   refine ZC (by rw[hx]; unfold kh; rw[Ġ,ï]) fun v a b=>?_;exact hd.uniq (kg hL hN hp hs) a (by omega)
  dsimp only;rw[this]
def aal (L:List Lk) (N:Nat) (s t:Int):Int×Int :=
 if !Μ L N then(0,9) else if gv (kh L N s) t=ŋ then(0,5) else(gv (kh L N s) t,0)
def aaa (h:ž L N) {ns:List Int} (hn:∀n∈ns,0≤n∧n<N) (hl:ns.length≤1000):yo ((N:Int),L) ns=some (if Μ L N then 0 else 9):=by
 have h2:=h.n60;unfold yo Kw;rw[jn h,À];dsimp only;rw[Î (by rfl)];refine Eq.trans (jF ns (fun _=>false) (fun _=>some 1) (some (if Μ L N then 0 else 9)) (fun i n hi hm kn=>?_) (fun kn=>?_)) ?_
 ·try dsimp only
  unfold rc;have a:=hn n (List.mem_of_getElem? hm)
  have e:(decide (0≤n)&&decide (n<(N:Int)))=true:=by simp[a.1,a.2]
  rw[Ó hi,È hm,WT,À,e,Í hi (by omega)];simp
 ·try dsimp only
  unfold rc;rw[ß,pm h.links h.n1 (by omega),À]
  cases Μ L N<;>rfl
 ·rw[dA.2 (by simp)]
def agL (h:ž L N) {s t:Int} (hs:0≤s∧s<N) (ht:0≤t∧t<N):Ex ((N:Int),L) s t=some (aal L N s t):=by
 have h2:=h.n60;unfold Ex KM aal
 rw[aaa h (fun n hn=>by simp at hn; rcases hn with rfl|rfl<;>assumption) (by simp),À]
 by_cases ho:Μ L N=true
 ·rw[if_pos ho,Î (by rfl),Mn h.links h.n1 (by omega) ho hs,À,ke ht.1 (by unfold kh; rw[Ġ,ï]; omega),Č,if_neg (show ¬(!Μ L N)=true by simp[ho])]
  by_cases hf:gv (kh L N s) t=ŋ
  ·rw[if_pos (by simpa[ieq] using hf),if_pos hf]
  ·rw[if_neg (by simpa[ieq] using hf),if_neg hf]
 ·rw[if_neg ho,Ù (by rfl),if_pos (show(!Μ L N)=true by simpa using ho)]
end
def Yo:Ď:=((0,0),[],[],[],[],[])
structure In (b:Ď):Prop where
 size:wu b
 num:∀g∈b.2.1,I64 g.2.2.2.2.1.1
def SH (b:Ď):Sys×List (Int×Int)×Int:=if ę b≠0 then((0,[]),[],ę b) else((((É b).length:Int)+1,ķ b),Iz b,0)
def V6 {b:Ď} (h:In b):g9 b=some (SH b):=by
 unfold g9 F7 SH;rw[vY h.size h.num,À]
 by_cases hc:ę b=0
 ·rw[Î (by simp[ine,hc]),Zn ((Ģ b).1 hc),À,if_neg (show ¬(ę b≠0) from fun h=>h hc)]
 ·rw[Ù (by simp[ine,hc]),if_pos hc]
def Mr (b:Ď) (g:Int) (ds:List Int):Int:=if ę b≠0 then ę b else if ds.any (fun d=>!I0 d) then 1 else if (lP (k:=tI) (v:=Õ) g (Ŕ b)).isNone then 5 else 0
def aeN {b:Ď} (h:In b) (g:Int) {ds:List Int} (hd:ds.length≤1000):EA b g ds=some (Mr b g ds):=by
 unfold EA Li Mr;rw[vY h.size h.num,À]
 by_cases hc:ę b=0
 ·rw[Î (by simp[ine,hc]),if_neg (show ¬(ę b≠0) from fun h=>h hc)]
  have last:(Ä (ļ b) fun r9=>MF (k:=tI) (v:=Õ) g r9 (fun y10=>some (0:Int)) (some (5:Int)))=some (if (lP (k:=tI) (v:=Õ) g (Ŕ b)).isNone then 5 else 0):=by
   rw[E4 h.size.gauges,À];unfold MF
   cases lP (k:=tI) (v:=Õ) g (Ŕ b)<;>rfl
  refine dV (Ň ds (fun d=>!I0 d) (fun z5=>ifb (ige z5 (0:Int)) (some (1:Int)) (Ä (ļ b) fun r6=>MF (k:=tI) (v:=Õ) g r6 (fun y7=>some (0:Int)) (some (5:Int)))) (some 1) (some (if (lP (k:=tI) (v:=Õ) g (Ŕ b)).isNone then 5 else 0)) (fun j=>?_) (fun i d hi hdi kn=>?_) (fun kn=>?_)) ?_
  ·rw[Ù (by simp[ige])]
  ·try dsimp only
   unfold rA;rw[Ó hi,È hdi,IM,À,Í hi (by omega),Č]
  ·try dsimp only
   unfold rA;rw[ß,last]
  ·cases ds.any (fun d=>!I0 d)<;>rfl
 ·rw[Ù (by simp[ine,hc]),if_pos hc]
def aeY {b:Ď} {x:List Int}:Oi b x=(true,0)↔ū b∧rB b x=true∧adE b x=true:=by
 unfold Oi;constructor
 ·intro h
  split at h
  ·cases h
  ·rename_i hc
   have hc0:ę b=0:=by simpa using hc
   split at h
   ·rename_i hl;simp only[Prod.mk.injEq,and_true] at h;exact⟨(Ģ b).1 hc0,hl,h⟩
   ·cases h
 ·rintro⟨h1,h2,h3⟩;rw[if_neg (by simp[(Ģ b).2 h1]),if_pos h2,h3]
def Vi {b:Ď} {x:List Int}:rB b x=true↔x.length=(É b).length∧∀n∈x,-4503599627370496≤n∧n≤4503599627370496:=by
 simp[rB,inP]
def adF {L:List Lk} {x:List Int}:Vu L x=true↔Pot L (gv x):=by
 simp only[Vu,cX,decide_eq_true_eq,Pot];exact⟨fun h u v m hl=>h (u,v,m) hl,fun h l hl=>h l.1 l.2.1 l.2.2 hl⟩
def ahU (a:Int) (x:List Int) {v:Int} (hv:0≤v):gv (a::x) v=if v=0 then a else gv x (v-1):=by
 unfold gv
 by_cases h:v=0
 ·subst h; rfl
 ·obtain⟨n,rfl⟩:=gF hv
  cases n with
  |zero=>simp at h
  |succ n =>
   have e:(((n+1:Nat):Int)-1).toNat=n:=by omega
   rw[if_neg h,e];simp
end Go.Proofs.ZzM
end
