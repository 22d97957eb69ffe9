/- lemmas -/
import Derived.Test.YtjlkjopcjcbooaaGreatDoorPlA
import Derived.Laws.RangeAny
import Derived.Test.YtjlkjopcjcbooaaGreatDoorMdTA
set_option linter.all false
noncomputable section
namespace Go.Proofs.ZzM
open Go Go.Am
def iP:ë:=((0,0),[],[],[],[],[])
def readW (n:Nat->Int) (ps:th Int×th Int) (b:ë) (w:BL):ë :=
 if w=[102,105,108,109] then((n 0,n 1),b.2)
 else if w=[103,97,117,103,101] then(b.1,b.2.1++[(n 0,n 1,n 2,(n 3,n 4),(n 5,n 6),n 7)],b.2.2)
 else if w=[117,115,101] then(b.1,b.2.1,b.2.2.1++[(n 0,n 1)],b.2.2.2)
 else if w=[108,111,97,110] then(b.1,b.2.1,b.2.2.1,b.2.2.2.1++[(n 0,(n 1,n 2),n 3)],b.2.2.2.2)
 else if w=[99,111,109,112,97,114,101] then(b.1,b.2.1,b.2.2.1,b.2.2.2.1,b.2.2.2.2.1++[(n 0,n 1,ps.1,ps.2,n 2,n 3,n 4,n 5)],b.2.2.2.2.2)
 else if w=[108,111,111,107] then(b.1,b.2.1,b.2.2.1,b.2.2.2.1,b.2.2.2.2.1,b.2.2.2.2.2++[(n 0,n 1)])
 else b
def Uh (w:BL):so Nat :=
 if w=[102,105,108,109] then some 2 else if w=[103,97,117,103,101] then some 8 else if w=[117,115,101] then some 2
 else if w=[108,111,97,110] then some 4 else if w=[99,111,109,112,97,114,101] then some 6 else if w=[108,111,111,107] then some 2 else none
def nC (r:th BL) (i:Nat):Int:=f0 (r.getD i [])
def ov (b:ë) (l:BL):so ë :=
 match JL 32 (Lib.trimSuffix l [10]) with
 |[]=>none
 |w::r=>match Uh w with
  |none=>none
  |some k=>if r.length<k then none else some (readW (nC r) (rK (r.drop 6)) b w)
section
variable {ρ:Type}
def Oa (w:BL) (r:th BL) {c:Int} {n:Nat} (f:c=n) (g:r.length<=100000) (b:∀v∈r,v.length<=100000) (A:so ρ) (K:th Int->so ρ) :
 (ð (ile (1:Int) (θ ((w::r).map ofL))) (ifb (ilt (â (List.drop 1 ((w::r).map ofL))) c) A (ð ((ile (0:Int) c)&&(ile c (θ (List.drop 1 ((w::r).map ofL))))) (Â (ģ (List.take (Int.toNat c) (List.drop 1 ((w::r).map ofL)))) fun a=>ð ((ile (0:Int) c)&&(ile c (θ (List.drop 1 ((w::r).map ofL))))) (K a)))))=if r.length<n then A else K ((r.take n).map f0):=by
 subst f;rw[show ile (1:Int) (θ ((w::r).map ofL))=true by simp[ile,θ]; omega,Am.iff_true,show List.drop 1 ((w::r).map ofL)=r.map ofL from rfl,œ]
 by_cases h:r.length<n
 ·rw[if_pos (by simpa[ilt,ó] using h),if_pos h]
 ·have e:(ile (0:Int) (n:Int)&&ile (n:Int) (θ (r.map ofL)))=true:=by simp[ile,θ]; omega
  rw[if_neg (by simpa[ilt,ó] using h),if_neg h,e,Am.iff_true,bU,<-List.map_take,qv _ (by simp; omega) (fun v d=>by have:=b v (List.mem_of_mem_take d); omega),À,Am.iff_true]
def jy {r:th BL} {n:Nat} {c:Int} (i:Nat) (a:c=i) (hi:i<n) (b:n<=r.length) (f:Int->so ρ):ø ((r.take n).map f0) c f=f (nC r i):=by
 subst a;refine Å ?_ f;rw[dt,eS hi,bo (by omega)];simp[nC,show i<r.length by omega]
end
abbrev StC:Type:=Int×Int×th è×th (Int×Int)×th zb×th Cmp×th (Int×Int)×Int×Int×Int×th è×th (Int×Int)×th zb×th Cmp×th (Int×Int)
abbrev EndC:Type:=Int×Int×th è×th (Int×Int)×th zb×th Cmp×th (Int×Int)×Int
def stC (b:ë):StC:=(0,0,[],[],[],[],[],0,b.1.1,b.1.2,b.2.1,b.2.2.1,b.2.2.2.1,b.2.2.2.2.1,b.2.2.2.2.2)
def endC:EndC:=(0,0,[],[],[],[],[],7)
structure Lens (b:ë) (n:Nat):Prop where
 g:b.2.1.length<=n
 u:b.2.2.1.length<=n
 l:b.2.2.2.1.length<=n
 c:b.2.2.2.2.1.length<=n
 k:b.2.2.2.2.2.length<=n
def Nu {l:BL} (c:l.length<=100000):∃w r,JL 32 l=w::r/\r.length<=100000/\(∀v∈r,v.length<=100000):=by
 obtain⟨w,r,h⟩:=GQ 32 l [];have a:=zB 32 l [];rw[h] at a;refine⟨w,r,h,by simp at a; omega,fun v b=>?_⟩;have:=wi 32 l [] v (by rw[h]; exact eA _ b);simp at this; omega
def st_ok {b:ë} {l:BL} (C:l.length<=100000) (hb:Lens b 1000000):Ĭ 2 8 2 4 6 2 (stC b) (ofL l)=some (match ov b l with|some A=>Sum.inl (stC A)|none=>Sum.inr endC):=by
 obtain⟨G,h2,F,E,D⟩:=hb;unfold Ĭ iJ ov;rw[show ByteArray.mk #[10]=ofL [10] from rfl,LR l [10] (by omega),À];have m:=Fu l [10];generalize Lib.trimSuffix l [10]=t at m;rw[show ByteArray.mk #[32]=ofL [32] from rfl,NJ t 32 (by omega),À];obtain⟨w,r,p,B,o⟩:=Nu (l:=t) (by omega);rw[p];dsimp only;rw[show List.map ofL (w::r)=ofL w::r.map ofL from rfl,Jn];have z:=qq w [102,105,108,109];have y:=qq w [103,97,117,103,101];have x:=qq w [117,115,101];have u:=qq w [108,111,97,110];have s:=qq w [99,111,109,112,97,114,101];have q:=qq w [108,111,111,107]
 rw[show ByteArray.mk #[102,105,108,109]=ofL [102,105,108,109] from rfl,show ByteArray.mk #[103,97,117,103,101]=ofL [103,97,117,103,101] from rfl,show ByteArray.mk #[117,115,101]=ofL [117,115,101] from rfl,show ByteArray.mk #[108,111,97,110]=ofL [108,111,97,110] from rfl,show ByteArray.mk #[99,111,109,112,97,114,101]=ofL [99,111,109,112,97,114,101] from rfl,show ByteArray.mk #[108,111,111,107]=ofL [108,111,111,107] from rfl,
  z,y,x,u,s,q]
 have d:∀v∈r,v.length<=100000:=fun v k=>by have:=o v k; omega
 unfold Uh readW
 by_cases i:w=[102,105,108,109]
 ·rw[Þ (decide_eq_true i),if_pos i,if_pos i];refine(Oa w r (c:=2) (n:=2) rfl (by omega) d _ _).trans ?_;dsimp only
  by_cases a:r.length<2
  ·rw[if_pos a,if_pos a]; rfl
  ·rw[if_neg a,if_neg a,jy 0 (c:=0) rfl (by omega) (by omega),jy 1 (c:=1) rfl (by omega) (by omega)]; rfl
 rw[Ö (decide_eq_false i),if_neg i,if_neg i]
 by_cases h:w=[103,97,117,103,101]
 ·rw[Þ (decide_eq_true h),if_pos h,if_pos h];refine(Oa w r (c:=8) (n:=8) rfl (by omega) d _ _).trans ?_;dsimp only
  by_cases a:r.length<8
  ·rw[if_pos a,if_pos a]; rfl
  ·rw[if_neg a,if_neg a,jy 0 (c:=0) rfl (by omega) (by omega),jy 1 (c:=1) rfl (by omega) (by omega),jy 2 (c:=2) rfl (by omega) (by omega),jy 3 (c:=3) rfl (by omega) (by omega),jy 4 (c:=4) rfl (by omega) (by omega),jy 5 (c:=5) rfl (by omega) (by omega),jy 6 (c:=6) rfl (by omega) (by omega),jy 7 (c:=7) rfl (by omega) (by omega),Ð (by show b.2.1.length+1<=_; omega),Am.iff_true]; rfl
 rw[Ö (decide_eq_false h),if_neg h,if_neg h]
 by_cases g:w=[117,115,101]
 ·rw[Þ (decide_eq_true g),if_pos g,if_pos g];refine(Oa w r (c:=2) (n:=2) rfl (by omega) d _ _).trans ?_;dsimp only
  by_cases a:r.length<2
  ·rw[if_pos a,if_pos a]; rfl
  ·rw[if_neg a,if_neg a,jy 0 (c:=0) rfl (by omega) (by omega),jy 1 (c:=1) rfl (by omega) (by omega),Ð (by show b.2.2.1.length+1<=_; omega),Am.iff_true]; rfl
 rw[Ö (decide_eq_false g),if_neg g,if_neg g]
 by_cases f:w=[108,111,97,110]
 ·rw[Þ (decide_eq_true f),if_pos f,if_pos f];refine(Oa w r (c:=4) (n:=4) rfl (by omega) d _ _).trans ?_;dsimp only
  by_cases a:r.length<4
  ·rw[if_pos a,if_pos a]; rfl
  ·rw[if_neg a,if_neg a,jy 0 (c:=0) rfl (by omega) (by omega),jy 1 (c:=1) rfl (by omega) (by omega),jy 2 (c:=2) rfl (by omega) (by omega),jy 3 (c:=3) rfl (by omega) (by omega),Ð (by show b.2.2.2.1.length+1<=_; omega),Am.iff_true]; rfl
 rw[Ö (decide_eq_false f),if_neg f,if_neg f]
 by_cases e:w=[99,111,109,112,97,114,101]
 ·rw[Þ (decide_eq_true e),if_pos e,if_pos e];refine(Oa w r (c:=6) (n:=6) rfl (by omega) d _ _).trans ?_;dsimp only
  by_cases a:r.length<6
  ·rw[if_pos a,if_pos a]; rfl
  ·rw[if_neg a,if_neg a,jy 0 (c:=0) rfl (by omega) (by omega),jy 1 (c:=1) rfl (by omega) (by omega),jy 2 (c:=2) rfl (by omega) (by omega),jy 3 (c:=3) rfl (by omega) (by omega),jy 4 (c:=4) rfl (by omega) (by omega),jy 5 (c:=5) rfl (by omega) (by omega)];rw[show List.drop (Int.toNat 6) (List.drop 1 (ofL w::r.map ofL))=(r.drop 6).map ofL by rw[List.map_drop]; rfl,T3 _ (by simp; omega) (fun v k=>by have:=o v (eD k); omega),À,Ð (by show b.2.2.2.2.1.length+1<=_; omega),Am.iff_true]; rfl
 rw[Ö (decide_eq_false e),if_neg e,if_neg e]
 by_cases j:w=[108,111,111,107]
 ·rw[Þ (decide_eq_true j),if_pos j,if_pos j];refine(Oa w r (c:=2) (n:=2) rfl (by omega) d _ _).trans ?_;dsimp only
  by_cases a:r.length<2
  ·rw[if_pos a,if_pos a]; rfl
  ·rw[if_neg a,if_neg a,jy 0 (c:=0) rfl (by omega) (by omega),jy 1 (c:=1) rfl (by omega) (by omega),Ð (by show b.2.2.2.2.2.length+1<=_; omega),Am.iff_true]; rfl
 rw[Ö (decide_eq_false j),if_neg j];rfl
def Qi {n:Nat->Int} {ps:th Int×th Int} {b:ë} {w:BL} {k:Nat} (h:Lens b k):Lens (readW n ps b w) (k+1):=by
 obtain⟨e,h2,d,c,a⟩:=h;unfold readW
 (repeat' split)<;>constructor<;>(try simp only[bp,bz,bD])<;>omega
def Qj {b a:ë} {l:BL} {k:Nat} (h:Lens b k) (e:ov b l=some a):Lens a (k+1):=by
 unfold ov at e
 (repeat' split at e)<;>first|(cases e; done)|(cases e; exact Qi h)
def Qb {ρ:Type} {kn:StC->so ρ} {e:EndC->so ρ}:∀(a:th BL) (b:ë) (k:Nat),Lens b k->k+a.length<=1000000->(∀l∈a,l.length<=100000) ->
 Tw (Ĭ 2 8 2 4 6 2) (a.map ofL) (stC b) kn e=match a.foldlM ov b with|some d=>kn (stC d)|none=>e endC
 |[],b,k,_,_,_=>rfl
 |l::a,b,k,hb,j,f=>by
  simp only[bz] at j;rw[cH,Tw,st_ok (f l (by simp)) ⟨by have:=hb.g; omega,by have:=hb.u; omega,by have:=hb.l; omega,by have:=hb.c; omega,by have:=hb.k; omega⟩,À,fe]
  cases i:ov b l with
  |none=>rfl
  |some d=>exact Qb a d (k+1) (Qj hb i) (by omega) fun x h=>f x (by simp[h])
def mC (t:BL):th BL:=(sJ (ofL t)).map toL
def Vs {t:BL} (i:t.length<=60000):pX (ofL t)=match (mC t).foldlM ov iP with
 |none=>some (iP,7)
 |some b=>Â (gD b) fun r=>if r.2≠0\/r.1≠ofL t then some (iP,7) else some (b,0):=by
 obtain⟨g,h2⟩:=wV (ofL t).size (ofL t);unfold pX BP;rw[Ð (by rw[Ï]; omega),show(true&&true)=true from rfl,Am.iff_true]
 have c:sJ (ofL t)=(mC t).map ofL:=by
  unfold mC; rw[List.map_map]; exact(List.map_id _).symm.trans (List.map_congr_left fun s _=>(mW s).symm)
 rw[c];have hb:((0:Int),(0:Int),([]:th è),([]:th (Int×Int)),([]:th zb),([]:th Cmp),([]:th (Int×Int)),(0:Int),(0:Int),(0:Int),([]:th è),([]:th (Int×Int)),([]:th zb),([]:th Cmp),([]:th (Int×Int)))=stC iP:=rfl;refine(Qb (mC t) iP 0 ⟨Nat.le_refl _,Nat.le_refl _,Nat.le_refl _,Nat.le_refl _,Nat.le_refl _⟩ (by unfold mC sJ; rw[Ï] at g ⊢; simp; omega) (fun l c=>?_)).trans ?_
 ·unfold mC sJ at c;obtain⟨y,f,rfl⟩:=List.mem_map.1 c;have:=h2 y f;rw[<-uh];exact Nat.le_trans this (by rw[Ï]; omega)
 ·cases(mC t).foldlM ov iP with
  |none=>rfl
  |some b =>
   dsimp only[stC]
   cases j:gD b with
   |none=>rfl
   |some r =>
    obtain⟨s,e⟩:=r;rw[À,À];dsimp only;rw[œ,œ]
    by_cases d:e=0
    ·rw[if_neg (by simp[ine,d]),<-mW s,nQ]
     by_cases a:toL s=t
     ·rw[if_neg (by simp[a]),if_neg (by simp[d,a])]
     ·rw[if_pos (by simp[a]),if_pos (.inr fun h=>a (Qz h))]; rfl
    ·rw[if_pos (by simp[ine,d]),if_pos (.inl d)]; rfl
def gJ (n:Int):Prop:=n.natAbs<10 ^ 17
def gJ.i64 {n:Int} (h:gJ n):I64 n:=by
 unfold gJ at h;exact⟨by omega,by omega⟩
def iY {n lo hi:Int} (h:inP n lo hi=true) (a : -1125899906842624<=lo) (h2:hi<=1125899906842624):gJ n:=by
 simp only[inP,Bool.and_eq_true,decide_eq_true_eq] at h;unfold gJ; omega
def l8 {s:Int×Int} {lo hi:Int} (h:ξ s lo hi=true) (a : -1125899906842624<=lo) (h2:hi<=1125899906842624):gJ s.1/\gJ s.2:=by
 simp only[ξ,Bool.and_eq_true,decide_eq_true_eq] at h;unfold gJ; exact⟨by omega,by omega⟩
def ι.idn {b:ë} (h:ι b) {id:Int} {g:è} (c:Ń b id=some g):gJ id:=by
 obtain⟨a,rfl⟩:=pP c;have:=h.gauge g a;simp only[iN,bn] at this;exact iY this.1.1.1.1.2 (by omega) (by omega)
def HP {l:th Int} (h:ow l=true):l.length<=6/\∀x∈l,gJ x:=by
 unfold ow at h
 split at h
 ·cases h
 ·rename_i c;refine⟨of_decide_eq_true h,fun x b=>?_⟩;obtain⟨j,d,rfl⟩:=List.mem_iff_getElem.1 b;have:=Ņ.1 c j _ (List.getElem?_eq_getElem d);unfold mU at this
  split at this
  ·cases this
  ·rename_i a;exact iY (by simpa using a) (by omega) (by omega)
def ι.prints {b:ë} (h:ι b):kB gJ b:=by
 have s:∀{id k:Int},NS (ŗ b) id k=0->gJ id/\gJ k:=fun e=>by
  obtain⟨⟨a,h2⟩,g,j,_⟩:=zK h e;exact⟨h.idn j,by unfold gJ; omega⟩
 refine⟨by have:=h.film; unfold gJ; exact⟨by omega,by omega⟩,fun g j=>?_,fun u p=>s (h.uses u p),fun l y=>?_,fun c z=>?_,fun u p=>s (h.looks u p),h.nG,h.nU,h.nL,h.nC,h.nK⟩
 ·have:=h.gauge g j;simp only[iN,bn,decide_eq_true_eq] at this;obtain⟨⟨⟨⟨⟨⟨⟨a,h2⟩,f⟩,r⟩,o⟩,q⟩,m⟩,A⟩:=this;simp only[Kc,bn,decide_eq_true_eq] at a;intro n d;simp only[Nb,bw,cw,or_false] at d;rcases d with rfl|rfl|rfl|rfl|rfl|rfl|rfl|rfl
  ·exact iY r (by omega) (by omega)
  ·exact iY (show inP g.2.1 0 20000=true from o) (by omega) (by omega)
  ·exact iY q (by omega) (by omega)
  ·exact(l8 m (by omega) (by omega)).1
  ·exact(l8 m (by omega) (by omega)).2
  ·exact iY h2 (by omega) (by omega)
  ·unfold gJ; omega
  ·exact iY A (by omega) (by omega)
 ·obtain⟨i,hi,rfl⟩:=List.mem_iff_getElem.1 y;have e:=h.loans i _ (List.getElem?_eq_getElem hi);unfold BU at e
  split at e
  ·omega
  rename_i a
  split at e
  ·omega
  rename_i h2
  split at e
  ·rename_i f; simp[e] at f
  rename_i f;obtain⟨g,j,_⟩:=wK h (show gT (ŗ b) b.2.2.2.1[i].1 b.2.2.2.1[i].2.1.1=0 by simpa using f)
  have a:ξ b.2.2.2.1[i].2.1 0 20000=true:=by simpa using a
  intro n d;simp only[WO,bw,cw,or_false] at d;rcases d with rfl|rfl|rfl|rfl
  ·exact h.idn j
  ·exact(l8 a (by omega) (by omega)).1
  ·exact(l8 a (by omega) (by omega)).2
  ·exact iY (lo:=0) (hi:=1048576) (by simpa using h2) (by omega) (by omega)
 ·have:=h.nums z;simp only[sZ,bn] at this;obtain⟨a,h2,f,r,o,q,m⟩:=this;obtain⟨x,w⟩:=HP q;obtain⟨v,t⟩:=HP m;refine⟨fun n d=>?_,w,t,x,v⟩;simp only[cmpN,bw,cw,or_false] at d;rcases d with rfl|rfl|rfl|rfl|rfl|rfl
  ·exact iY a (by omega) (by omega)
  ·exact iY (show inP c.2.1 0 20000=true from h2) (by omega) (by omega)
  ·exact iY f (by omega) (by omega)
  ·exact iY r (by omega) (by omega)
  ·exact(l8 o (by omega) (by omega)).1
  ·exact(l8 o (by omega) (by omega)).2
def ő (c:UInt8) (a:c.toNat≠45/\¬(48<=c.toNat/\c.toNat<=57)) (ns:th Int):∀v∈fO ns,∀x∈v,x≠c:=by
 intro v d x b e;obtain⟨n,_,rfl⟩:=cj.1 d;have:=ES n x b;subst e;rcases this with h|h
 ·exact a.1 h
 ·exact a.2 h
def WR (n:Int) (c:UInt8) (a:c.toNat≠45/\¬(48<=c.toNat/\c.toNat<=57)):Lib.itoa n≠[c]:=fun e=>ő c a [n] (Lib.itoa n) (by simp) c (by rw[e]; simp) rfl
def DQ (c:UInt8) (j:c=10\/c=32) {b:ë}:∀p∈ŕ b,(∀x∈p.1,x≠c)/\∀v∈p.2,∀x∈v,x≠c:=by
 have h:c.toNat≠45/\¬(48<=c.toNat/\c.toNat<=57):=by rcases j with rfl|rfl<;>decide
 have a:∀w:BL,(w.all fun x=>x != 10&&x != 32)=true->∀x∈w,x≠c:=fun w m x k e=>by
  have:=bI.1 m x k
  rcases j with rfl|rfl<;>subst e<;>revert this<;>decide
 intro p i;unfold ŕ at i;simp only[List.mem_cons,List.mem_append,List.mem_map] at i;rcases i with rfl|⟨g,q,rfl⟩|⟨u,n,rfl⟩|⟨l,o,rfl⟩|⟨d,hd,rfl⟩|⟨u,n,rfl⟩
 ·exact⟨a _ rfl,ő c h _⟩
 ·exact⟨a _ rfl,ő c h _⟩
 ·exact⟨a _ rfl,ő c h _⟩
 ·exact⟨a _ rfl,ő c h _⟩
 ·refine⟨a _ rfl,fun v f=>?_⟩;simp only[Pb,bq,bw] at f;rcases f with f|(rfl|f)|rfl|f
  ·exact ő c h _ v f
  ·exact a _ rfl
  ·exact ő c h _ v f
  ·exact a _ rfl
  ·exact ő c h _ v f
 ·exact⟨a _ rfl,ő c h _⟩
def UL {b:ë} {p:BL×th BL} (a:p∈ŕ b):JL 32 (ũ p)=p.1::p.2:=by
 obtain⟨c,h2⟩:=DQ 32 (.inr rfl) p a;exact Cu 32 p.2 p.1 c h2
def Jg {b:ë} {p:BL×th BL} (d:p∈ŕ b):∀x∈ũ p,x≠10:=by
 obtain⟨e,h2⟩:=DQ 10 (.inl rfl) p d;intro x a;rcases bq.1 a with a|a
 ·exact e x a
 ·unfold spL at a;obtain⟨v,c,a⟩:=List.mem_flatMap.1 a;rcases List.mem_cons.1 a with rfl|a
  ·decide
  ·exact h2 v c x a
def nC_num {ns:th Int} (h:∀n∈ns,gJ n) (r:th BL) {i:Nat} (hi:i<ns.length):nC (fO ns++r) i=ns.getD i 0:=by
 unfold nC;rw[List.getD_eq_getElem?_getD,List.getElem?_append_left (by simpa using hi),List.getD_eq_getElem?_getD];simp only[List.getElem?_map,List.getElem?_eq_getElem hi,Option.map_some,Option.getD_some];exact jS (h _ (List.getElem_mem hi)).i64
def MK {ns:th Int} (h:∀n∈ns,gJ n):(fO ns).map f0=ns:=by
 rw[List.map_map];exact(cG fun n a=>jS (h n a).i64).trans (List.map_id _)
def Qn {A B:th Int} (c:∀n∈A,gJ n) (b:∀n∈B,gJ n):rK ([97]::fO A++[98]::fO B)=(A,B):=by
 unfold rK
 have a:([97]::fO A++[98]::fO B).findIdx? (fun v=>decide (v=[98]))=some (A.length+1):=by
  rw[b9];refine⟨by simp,?_,fun j g=>?_⟩
  ·simp
  ·cases j with
   |zero=>simp
   |succ j =>
    have:j<(fO A).length:=by simp; omega
    have e:([97]::fO A++[98]::fO B)[j+1]'(by simp; omega)=Lib.itoa A[j]:=by
     simp only[cW,List.getElem_cons_succ];rw[List.getElem_append_left this,List.getElem_map]
    intro h;exact WR _ 98 (by decide) (e.symm.trans (of_decide_eq_true h))
 dsimp only[List.cons_append] at a ⊢;rw[if_pos rfl,a];dsimp only
 have f:((([97]::(fO A++[98]::fO B)).drop 1).take (A.length+1-1))=fO A:=by
  rw[List.drop_one,List.tail_cons,Nat.add_sub_cancel,dH (by simp),cm (by simp)]
 have d:(([97]::(fO A++[98]::fO B)).drop (A.length+1+1))=fO B:=by
  rw[List.drop_succ_cons,show A.length+1=(fO A++[[98]]).length by simp,show fO A++[98]::fO B=(fO A++[[98]])++fO B by simp,List.drop_left]
 rw[f,d,MK c,MK b]
structure Xv (R:ë->BL×th BL->so ë) (b:ë):Prop where
 film:∀x:ë,R x (OY b.1)=some (b.1,x.2)
 gauge:∀(x:ë),∀g∈b.2.1,R x (vN g)=some (x.1,x.2.1++[g],x.2.2)
 use:∀(x:ë),∀u∈b.2.2.1,R x (TG u)=some (x.1,x.2.1,x.2.2.1++[u],x.2.2.2)
 loan:∀(x:ë),∀l∈b.2.2.2.1,R x (Gq l)=some (x.1,x.2.1,x.2.2.1,x.2.2.2.1++[l],x.2.2.2.2)
 cmp:∀(x:ë),∀c∈b.2.2.2.2.1,R x (Pb c)=some (x.1,x.2.1,x.2.2.1,x.2.2.2.1,x.2.2.2.2.1++[c],x.2.2.2.2.2)
 look:∀(x:ë),∀u∈b.2.2.2.2.2,R x (Gp u)=some (x.1,x.2.1,x.2.2.1,x.2.2.2.1,x.2.2.2.2.1,x.2.2.2.2.2++[u])
def jN {β:Type} (R:ë->BL×th BL->so ë) (F:β->BL×th BL) (G:ë->th β->ë) (b:∀x a l,G (G x [a]) l=G x (a::l)) (h0:∀x,G x []=x):∀(l:th β),(∀x,∀a∈l,R x (F a)=some (G x [a]))->∀x,(l.map F).foldlM R x=some (G x l)
 |[],_,x=>by rw[h0]; rfl
 |a::l,h,x=>by
  rw[cH,fe,h x a (by simp)];show(l.map F).foldlM R (G x [a])=_;rw[jN R F G b h0 l fun x a ha=>h x a (by simp[ha]),b]
def Xv.all {R:ë->BL×th BL->so ë} {b:ë} (h:Xv R b):(ŕ b).foldlM R iP=some b:=by
 unfold ŕ;rw[List.foldlM_cons,h.film iP];show List.foldlM R (b.1,iP.2) _=_;rw[List.foldlM_append,jN R vN (fun x l=>(x.1,x.2.1++l,x.2.2)) (fun x a l=>by simp) (fun x=>by simp) _ h.gauge];show List.foldlM R (b.1,[]++b.2.1,iP.2.2) _=_;rw[List.foldlM_append,jN R TG (fun x l=>(x.1,x.2.1,x.2.2.1++l,x.2.2.2)) (fun x a l=>by simp) (fun x=>by simp) _ h.use];show List.foldlM R (b.1,[]++b.2.1,[]++b.2.2.1,iP.2.2.2) _=_;rw[List.foldlM_append,jN R Gq (fun x l=>(x.1,x.2.1,x.2.2.1,x.2.2.2.1++l,x.2.2.2.2)) (fun x a l=>by simp) (fun x=>by simp) _ h.loan];show List.foldlM R (b.1,[]++b.2.1,[]++b.2.2.1,[]++b.2.2.2.1,iP.2.2.2.2) _=_;rw[List.foldlM_append,jN R Pb (fun x l=>(x.1,x.2.1,x.2.2.1,x.2.2.2.1,x.2.2.2.2.1++l,x.2.2.2.2.2)) (fun x a l=>by simp) (fun x=>by simp) _ h.cmp];show List.foldlM R (b.1,[]++b.2.1,[]++b.2.2.1,[]++b.2.2.2.1,[]++b.2.2.2.2.1,iP.2.2.2.2.2) _=_;rw[jN R Gp (fun x l=>(x.1,x.2.1,x.2.2.1,x.2.2.2.1,x.2.2.2.2.1,x.2.2.2.2.2++l)) (fun x a l=>by simp) (fun x=>by simp) _ h.look];simp[iP]
def T1 {R:ë->BL×th BL->so ë} {n:th BL->Nat->Int} {ps:th BL->th Int×th Int} {b:ë} (h:kB gJ b)
 (j:∀(ns:th Int) (r:th BL) (i:Nat),(∀m∈ns,gJ m)->i<ns.length->n (fO ns++r) i=ns.getD i 0)
 (w:∀A B:th Int,(∀m∈A,gJ m)->(∀m∈B,gJ m)->ps ([97]::fO A++[98]::fO B)=(A,B))
 (k:∀x,∀p∈ŕ b,R x p=some (readW (n p.2) (ps (p.2.drop 6)) x p.1)):Xv R b:=by
 have a:∀(ns:th Int) (i:Nat),(∀m∈ns,gJ m)->i<ns.length->n (fO ns) i=ns.getD i 0:=fun ns i C h2=>by
  have:=j ns [] i C h2
  rwa [bH] at this
 have f:∀u:Int×Int,gJ u.1/\gJ u.2->n (fO [u.1,u.2]) 0=u.1/\n (fO [u.1,u.2]) 1=u.2:=fun u e=>by
  have:∀m∈[u.1,u.2],gJ m:=fun m d=>by
   simp only[bw,cw,or_false] at d;rcases d with rfl|rfl
   ·exact e.1
   ·exact e.2
  exact⟨a _ 0 this (by simp),a _ 1 this (by simp)⟩
 refine⟨fun x=>?_,fun x g t=>?_,fun x u e=>?_,fun x l s=>?_,fun x c v=>?_,fun x u e=>?_⟩
 ·rw[k x _ (by unfold ŕ; exact List.mem_cons_self)];obtain⟨q,o⟩:=f b.1 h.film;unfold readW OY;dsimp only;rw[if_pos rfl,q,o]
 ·rw[k x _ (by unfold ŕ; simp only[List.mem_cons,List.mem_append]; exact .inr (.inl (List.mem_map.2 ⟨g,t,rfl⟩)))];have d:=h.gauges g t;unfold readW vN;dsimp only;rw[if_neg (by decide),if_pos rfl];rw[a _ 0 d (by simp),a _ 1 d (by simp),a _ 2 d (by simp),a _ 3 d (by simp),a _ 4 d (by simp),a _ 5 d (by simp),a _ 6 d (by simp),a _ 7 d (by simp)];rfl
 ·rw[k x _ (by unfold ŕ; simp only[List.mem_cons,List.mem_append]; exact .inr (.inr (.inl (List.mem_map.2 ⟨u,e,rfl⟩))))];obtain⟨q,o⟩:=f u (h.uses u e);unfold readW TG;dsimp only;rw[if_neg (by decide),if_neg (by decide),if_pos rfl,q,o]
 ·rw[k x _ (by unfold ŕ; simp only[List.mem_cons,List.mem_append]; exact .inr (.inr (.inr (.inl (List.mem_map.2 ⟨l,s,rfl⟩)))))];have d:=h.loans l s;unfold readW Gq;dsimp only;rw[if_neg (by decide),if_neg (by decide),if_neg (by decide),if_pos rfl];rw[a _ 0 d (by simp),a _ 1 d (by simp),a _ 2 d (by simp),a _ 3 d (by simp)];rfl
 ·rw[k x _ (by unfold ŕ; simp only[List.mem_cons,List.mem_append]; exact .inr (.inr (.inr (.inr (.inl (List.mem_map.2 ⟨c,v,rfl⟩))))))];obtain⟨d,z,y,_⟩:=h.cmps c v;unfold readW Pb;dsimp only;rw[if_neg (by decide),if_neg (by decide),if_neg (by decide),if_neg (by decide),if_pos rfl];rw[j _ _ 0 d (by simp),j _ _ 1 d (by simp),j _ _ 2 d (by simp),j _ _ 3 d (by simp),j _ _ 4 d (by simp),j _ _ 5 d (by simp)];rw[show(fO (cmpN c)++([97]::fO c.2.2.1++[98]::fO c.2.2.2.1)).drop 6=[97]::fO c.2.2.1++[98]::fO c.2.2.2.1 from rfl,w _ _ z y];rfl
 ·rw[k x _ (by unfold ŕ; simp only[List.mem_cons,List.mem_append]; exact .inr (.inr (.inr (.inr (.inr (List.mem_map.2 ⟨u,e,rfl⟩))))))];obtain⟨q,o⟩:=f u (h.looks u e);unfold readW Gp;dsimp only;rw[if_neg (by decide),if_neg (by decide),if_neg (by decide),if_neg (by decide),if_neg (by decide),if_pos rfl,q,o]
def N9 {b:ë} {p:BL×th BL} (a:p∈ŕ b) (x:ë):ov x (ũ p++[10])=some (readW (nC p.2) (rK (p.2.drop 6)) x p.1):=by
 unfold ov;rw[Kj,UL a];dsimp only
 have e:∃k,Uh p.1=some k/\k<=p.2.length:=by
  unfold ŕ at a;simp only[List.mem_cons,List.mem_append,List.mem_map] at a;rcases a with rfl|⟨g,i,rfl⟩|⟨u,d,rfl⟩|⟨l,h,rfl⟩|⟨c,j,rfl⟩|⟨u,d,rfl⟩
  ·exact⟨2,rfl,bm _⟩
  ·exact⟨8,rfl,bm _⟩
  ·exact⟨2,rfl,bm _⟩
  ·exact⟨4,rfl,bm _⟩
  ·exact⟨6,rfl,by simp[Pb]⟩
  ·exact⟨2,rfl,bm _⟩
 obtain⟨k,f,h2⟩:=e;rw[f];dsimp only;rw[if_neg (by omega)]
def Ma (b:ë):ė b=((ŕ b).map ũ).flatMap fun l=>l++[10]:=by unfold ė; rw[List.flatMap_map]
def xb {b:ë} (h:kB gJ b):(mC (ė b)).foldlM ov iP=some b:=by
 have c:mC (ė b)=(ŕ b).map fun p=>ũ p++[10]:=by
  unfold mC sJ;rw[Ma,Jf _ _ (fun l c=>by obtain⟨p,a,rfl⟩:=List.mem_map.1 c; exact Jg a) (by rw[Ï]; exact Nat.le_refl _)];rw[List.map_map,List.map_map]; rfl
 rw[c,List.foldlM_map];exact(T1 (R:=fun x p=>ov x (ũ p++[10])) (n:=nC) (ps:=rK) h (fun ns r i f h2=>nC_num f r h2) (fun A B e d=>Qn e d) fun x p a=>N9 a x).all
end Go.Proofs.ZzM
end

noncomputable section
namespace Go.Proofs.ZzM
open Go Go.Am
structure PL (b:ë):Prop where
 piles:PD b
 num:∀g∈b.2.1,I64 g.2.2.2.2.1.1
def PL.readW {n:Nat->Int} {ps:th Int×th Int} {b:ë} {w:BL} (h:PL b) (i:I64 (n 5)) (f:ps.1.length<=100000/\ps.2.length<=100000):PL (readW n ps b w):=by
 obtain⟨a,h2⟩:=h;unfold ZzM.readW
 split
 ·exact⟨a,h2⟩
 split
 ·refine⟨a,fun g d=>?_⟩;rcases bq.1 d with d|d
  ·exact h2 g d
  ·rw[br.1 d]; exact i
 split
 ·exact⟨a,h2⟩
 split
 ·exact⟨a,h2⟩
 split
 ·refine⟨fun c e=>?_,h2⟩;rcases bq.1 e with e|e
  ·exact a c e
  ·rw[br.1 e]; exact f
 split
 ·exact⟨a,h2⟩
 ·exact⟨a,h2⟩
def Oc (ws:th BL):(rK ws).1.length<=ws.length/\(rK ws).2.length<=ws.length:=by
 unfold rK
 cases ws with
 |nil=>simp
 |cons w r =>
  dsimp only
  split
  ·cases(w::r).findIdx? (fun v=>decide (v=[98]))<;>simp<;>omega
  ·simp
def fine0:PL iP:=⟨fun _ b=>(by cases b),fun _ a=>(by cases a)⟩
def fineC {b c:ë} {l:BL} (h:PL b) (i:l.length<=100000) (e:ov b l=some c):PL c:=by
 unfold ov at e;have f:=Fu l [10];obtain⟨w,r,d,g,_⟩:=Nu (l:=Lib.trimSuffix l [10]) (by omega);rw[d] at e;dsimp only at e
 cases a:Uh w with
 |none=>rw[a] at e; cases e
 |some k =>
  rw[a] at e;dsimp only at e
  split at e
  ·cases e
  ·cases e;have:=Oc (r.drop 6);rw[dJ] at this;exact h.readW (qg _) ⟨by omega,by omega⟩
def Jv:∀(c:th BL) (b a:ë),PL b->(∀l∈c,l.length<=100000)->c.foldlM ov b=some a->PL a
 |[],b,a,h,_,e=>by cases e; exact h
 |l::c,b,a,h,f,e=>by
  rw[fe] at e
  cases d:ov b l with
  |none=>rw[d] at e; cases e
  |some i=>rw[d] at e; exact Jv c i a (fineC h (f l (by simp)) d) (fun x g=>f x (by simp[g])) e
def Hj {b:ë} (h:PL b):gD b=some (if fo b≠0 then(ofL [],fo b) else(ofL (ė b),0)):=by
 have a:=J8 h.piles h.num
 by_cases h0:fo b=0
 ·rw[if_neg (by simp[h0])];exact T2 (((ii b).1 h0).prints.mono fun n c=>c.i64) (by rw[a,h0])
 ·rw[if_pos h0];unfold gD vF;rw[a,À,Þ (by simpa[ine] using h0)]
def Tf {b:ë} (h:ι b):jO b=some (ofL (ė b)):=Qc (h.prints.mono fun n a=>a.i64)
def P0 {b a:ë} (h:ι b) (h':ι a) (e:ė b=ė a):b=a:=by
 have c:=xb h.prints;rw[e,xb h'.prints] at c;exact(Option.some.inj c).symm
open Classical in
def FE (t:BL):so ë:=if h:∃b,ι b/\ė b=t then some h.choose else none
def Mp {b:ë} (h:ι b):FE (ė b)=some b:=by
 have a:∃c,ι c/\ė c=ė b:=⟨b,h,rfl⟩;unfold FE;rw[dif_pos a];exact congrArg some (P0 a.choose_spec.1 h a.choose_spec.2)
def wF {t:BL} {b:ë} (h:FE t=some b):ι b/\ė b=t:=by
 unfold FE at h
 split at h
 ·rename_i a; cases h; exact a.choose_spec
 ·cases h
def XA {t:BL} (i:t.length<=60000):pX (ofL t)=some (match FE t with|some b=>(b,0)|none=>(iP,7)):=by
 have a:∀b,(mC t).foldlM ov iP=some b->PL b:=fun b hb=>Jv _ _ _ fine0 (fun l f=>by
  unfold mC sJ at f;obtain⟨y,h,rfl⟩:=List.mem_map.1 f;have:=(wV (ofL t).size (ofL t)).2 y h;rw[<-uh]
  exact bB this (by rw[Ï]; omega)) hb
 rw[Vs i]
 cases d:FE t with
 |some b =>
  obtain⟨g,rfl⟩:=wF d;have hb:=xb g.prints;rw[hb];dsimp only;rw[Hj (a b hb),(ii b).2 g,À];simp
 |none =>
  cases j:(mC t).foldlM ov iP with
  |none=>rfl
  |some b =>
   dsimp only;rw[Hj (a b j),À]
   by_cases h0:fo b=0
   ·have c:ofL (ė b)≠ofL t:=fun e=>by
     have:=Mp ((ii b).1 h0);rw[Qz e,d] at this;cases this
    rw[show(if fo b≠0 then(ofL [],fo b) else(ofL (ė b),0))=(ofL (ė b),0) from if_neg (by simp[h0])];exact if_pos (.inr c)
   ·rw[show(if fo b≠0 then(ofL [],fo b) else(ofL (ė b),0))=(ofL [],fo b) from if_pos h0];exact if_pos (.inl h0)
end Go.Proofs.ZzM
end

noncomputable section
namespace Go.Proofs.ZzM
open Go Go.Am
variable {ρ:Type}
abbrev jF:Type:=ë×(Int×Int)×Bool×Int×th Int
def rD:jF:=(iP,(0,0),false,0,[])
def oM (u:Bool):BL:=bif u then[117,112,112,101,114] else[108,111,119,101,114]
def JO (c:jF):th BL:=fO [c.2.1.1,c.2.1.2]++[oM c.2.2.1,Lib.itoa c.2.2.2.1]
def oD (c:jF):BL:=jx [99,101,114,116] (JO c)
def Lx (c:jF):BL:=jx [99,101,114,116] (fO [c.2.1.1,c.2.1.2])
def lR (c:jF):BL:=jx [99,104,97,105,110] (fO c.2.2.2.2)
def Δ (c:jF):BL:=ė c.1++((oD c++[10])++(lR c++[10]))
structure LZ (c:jF):Prop where
 book:PL c.1
 g:I64 c.2.1.1
 d:I64 c.2.1.2
 v:I64 c.2.2.2.1
 l:∀n∈c.2.2.2.2,I64 n
def Mg {w:BL} {ns:th Int} (a:w.length<=1000) (c:ns.length<=1000) (b:∀n∈ns,I64 n):lQ (ofL w) ns=some (ofL (jx w (fO ns))):=nA a c b
def fX {a b:BL} (h:a.length+b.length<=4294967296) (K:so ρ):ð (Ñ (ByteArray.size (ofL a)+ByteArray.size (ofL b))) K=K:=by
 rw[Ð (by rw[Ï,Ï]; exact h),Am.iff_true]
def ud {b:ë} (h:J5 b):(ė b).length<=60000:=by
 unfold ė;have f:=h.len;have h2:=h.count
 have a:∀l:th (BL×th BL),(∀p∈l,(ũ p).length<=500)->(l.flatMap fun p=>ũ p++[10]).length<=501*l.length:=by
  intro l
  induction l with
  |nil=>intro _; simp
  |cons p l d =>
   intro c;have:=d fun q e=>c q (.tail _ e);have g:=c p (.head _);rw[bX,bp,bp,bz];simp only[bz,bD] at *;omega
 have:=a _ f;omega
def WJ:ByteArray.mk #[99,101,114,116]=ofL [99,101,114,116]:=rfl
def Un:ByteArray.mk #[99,104,97,105,110]=ofL [99,104,97,105,110]:=rfl
def WL:ByteArray.mk #[10]=ofL [10]:=rfl
def WK:ByteArray.mk #[32]=ofL [32]:=rfl
def mk_up:ByteArray.mk #[32,117,112,112,101,114,32]=ofL (32::oM true++[32]):=rfl
def mk_lo:ByteArray.mk #[32,108,111,119,101,114,32]=ofL (32::oM false++[32]):=rfl
def GS (c:jF):oD c=Lx c++(32::oM c.2.2.1++[32])++Lib.itoa c.2.2.2.1:=by
 simp[oD,Lx,JO,jx,spL]
def zR (u:Bool):(oM u).length=5:=by cases u<;>rfl
def CS {c:jF} (h:LZ c):ý c=some (if fo c.1≠0 then(ofL [],fo c.1) else if 80<c.2.2.2.2.length then(ofL [],2) else(ofL (Δ c),0)):=by
 unfold ý Bt;rw[Hj h.book,À]
 by_cases h0:fo c.1=0
 case neg=>rw[if_pos h0,if_pos h0,Þ (by simpa[ine] using h0)]
 rw[if_neg (by simp[h0]),if_neg (by simp[h0]),Ö (by simp[ine])]
 by_cases i:80<c.2.2.2.2.length
 ·rw[if_pos i,Þ (by rw[ó]; simp[igt]; omega)]
 rw[if_neg i,Ö (by rw[ó]; simp[igt]; omega)]
 have k:c.2.2.2.2.length<=1000:=by omega
 have hb:=ud (((ii c.1).1 h0).prints.mono fun n j=>j.i64);have o:lQ (ofL [99,101,114,116]) [c.2.1.1,c.2.1.2]=some (ofL (Lx c)):=Mg (by simp) (by simp) (by simp[h.g,h.d]);have m:lQ (ofL [99,104,97,105,110]) c.2.2.2.2=some (ofL (lR c)):=Mg (by simp) k h.l
 have s:(Lx c).length<=100:=by
  show(jx [99,101,114,116] (fO [c.2.1.1,c.2.1.2])).length<=100;have:=ĉ (w:=[99,101,114,116]) (ns:=[c.2.1.1,c.2.1.2]) (by simp[h.g,h.d]); simp only[bz,bD] at this ⊢; omega
 have r:(lR c).length<=30000:=by
  have:=ĉ (w:=[99,104,97,105,110]) h.l; simp only[List.length_cons,List.length_nil] at this; unfold lR; omega
 have q:=ų h.v;have p:=zR c.2.2.1
 have b:∀u,u=c.2.2.1->(Â (some (ofL (Lx c))) fun r2=>ð (Ñ (ByteArray.size (ofL (ė c.1))+ByteArray.size r2)) (ð (Ñ (ByteArray.size (ofL (ė c.1)++r2)+ByteArray.size (ofL (32::oM u++[32])))) (Â (some (ofL (Lib.itoa c.2.2.2.1))) fun a=>ð (Ñ (ByteArray.size ((ofL (ė c.1)++r2)++ofL (32::oM u++[32]))+ByteArray.size a)) (ð (Ñ (ByteArray.size (((ofL (ė c.1)++r2)++ofL (32::oM u++[32]))++a)+ByteArray.size (ofL [10]))) (Â (some (ofL (lR c))) fun e=>ð (Ñ (ByteArray.size ((((ofL (ė c.1)++r2)++ofL (32::oM u++[32]))++a)++(ofL [10]))+ByteArray.size e)) (ð (Ñ (ByteArray.size (((((ofL (ė c.1)++r2)++ofL (32::oM u++[32]))++a)++(ofL [10]))++e)+ByteArray.size (ofL [10]))) (some (((((((ofL (ė c.1)++r2)++ofL (32::oM u++[32]))++a)++(ofL [10]))++e)++(ofL [10])),(0:Int)))))))))=some (ofL (Δ c),(0:Int)):=by
  rintro u rfl;simp only[À,ç];rw[fX (by omega),fX (by simp only[List.length_append,List.length_cons,List.length_nil]; omega),fX (by simp only[List.length_append,List.length_cons,List.length_nil]; omega),fX (by simp only[List.length_append,List.length_cons,List.length_nil]; omega),fX (by simp only[List.length_append,List.length_cons,List.length_nil]; omega),fX (by simp only[List.length_append,List.length_cons,List.length_nil]; omega)];congr 3;unfold Δ;rw[GS];simp only[List.append_assoc]
 simp only[WJ,Un,WL,mk_up,mk_lo,o,m,Tq h.v]
 cases f:c.2.2.1 with
 |true=>rw[fE]; exact b true f.symm
 |false=>rw[Ľ]; exact b false f.symm
def RX:∀(k u:Nat),u<10 ^ (k+1)->u<=9223372036854775807->gQ (k+1) (u:Int)=some (ofL (Lib.decDigits u)):=by
 intro k
 induction k with
 |zero =>
  intro u a d
  have a:u<10:=by simpa using a
  unfold gQ gU;rw[xF,ö (by omega) (by omega),Þ (by simp[ilt]; omega),fp (by omega) (by omega)];rw[Lib.decDigits,dif_pos a]
  have:u % 10=u:=by omega
  simp[this]
 |succ k e =>
  intro u a d;unfold gQ gU;rw[xF,ö (by omega) (by omega)]
  by_cases c:u<10
  ·rw[Þ (by simp[ilt]; omega),fp (by omega) (by omega),Lib.decDigits,dif_pos c]
   have:u % 10=u:=by omega
   simp[this]
  ·have b:u / 10<10 ^ (k+1):=by rw[Nat.pow_succ] at a; omega
   rw[Ö (by simp[ilt]; omega),Mb,ö (by omega) (by omega),e _ b (by omega),À,fp (by omega) (by omega)];have hd:=xi b
   have f:(Lib.decDigits (u / 10)).length<=100:=by
    have:(Lib.decDigits (u / 10)).length<=20:=xi (k:=19) (by omega);omega
   rw[fX (by have:(Lib.decDigits (u / 10)).length<=100:=f; simp only[bz,bD]; omega),ç]
   conv=>rhs; rw[Lib.decDigits,dif_neg c]
   rw[bU]
def RY {u:Nat} (h:u<=9223372036854775807):nE (u:Int)=some (ofL (Lib.decDigits u)):=RX 99 u (by have:(10:Nat) ^ 20<=10 ^ (99+1):=Nat.pow_le_pow_right (by omega) (by omega); omega) h
def zF {n:Int} (h:I64 n):ņ n=some (ofL (Lib.itoa n)):=by
 unfold ņ Az
 by_cases h0:n<0
 ·obtain⟨m,rfl⟩:∃m:Nat,n = -(m:Int):=⟨n.natAbs,by omega⟩;have b:=h.1
  have e:Int.tmod (-(m:Int)) 10 = -((m % 10:Nat):Int):=by rw[Int.neg_tmod,xF]
  have d:Int.tdiv (-(m:Int)) 10 = -((m / 10:Nat):Int):=by rw[Int.neg_tdiv,Mb]
  rw[Ö (by simp[ige]; omega),e,ö (by omega) (by omega),show(48:Int) - -((m % 10:Nat):Int)=48+((m % 10:Nat):Int) by omega,fp (by omega) (by omega),show ByteArray.mk #[45]=ofL [45] from rfl]
  by_cases c:m<10
  ·rw[Þ (by simp[igt]; omega),fX (by simp),ç];unfold Lib.itoa;rw[if_pos h0,Lib.decDigits,dif_pos (by omega),show(-(m:Int)).natAbs=m by omega,Int.toNat_natCast,Nat.mod_eq_of_lt c];rfl
  ·rw[Ö (by simp[igt]; omega),d,ö (by omega) (by omega),show(0:Int) - -((m / 10:Nat):Int)=((m / 10:Nat):Int) by omega,ö (by omega) (by omega),RY (by omega),À];have f:(Lib.decDigits (m / 10)).length<=20:=xi (k:=19) (by omega);rw[fX (by simp only[List.length_cons,List.length_nil]; omega),ç,fX (by simp only[List.length_cons,List.length_append,List.length_nil]; omega),ç];unfold Lib.itoa;rw[if_pos h0,Lib.decDigits.eq_def (-(m:Int)).natAbs,dif_neg (by omega),show(-(m:Int)).natAbs=m by omega,Int.toNat_natCast];rfl
 ·obtain⟨m,rfl⟩:=Int.eq_ofNat_of_zero_le (show 0<=n by omega);have a:=h.2;rw[Þ (by simp[ige]),RY (by omega),À];unfold Lib.itoa;rw[if_neg h0,Int.toNat_natCast]
def PF {c:jF} (h:LZ c) (y:ι c.1) (H:c.2.2.2.2.length<=1000):ic c=some (ofL (Δ c)):=by
 unfold ic wL;have hb:=ud (y.prints.mono fun n A=>A.i64);have D:=ų h.g;have E:=ų h.d;have G:=ų h.v;have F:=zR c.2.2.1;have m:ByteArray.mk #[99,101,114,116,32]=ofL [99,101,114,116,32]:=rfl;have f:ByteArray.mk #[10,99,104,97,105,110]=ofL [10,99,104,97,105,110]:=rfl
 have loop:∀(out:BL),out.length<=100000->Ü (fun(j:Val (.pair .str tI)) a=>Ş c.2.2.2.2 j.1 j.2 (fun e b=>a (e,b)) (fun z8=>ð (Ñ (ByteArray.size z8+ByteArray.size (ofL [10]))) (some (z8++(ofL [10]))))) (ofL out,(0:Int))=some (ofL (out++(spL 32 (fO c.2.2.2.2)++[10]))):=by
  intro out z;have B:=ĉ (w:=out) h.l;rw[qD c.2.2.2.2 (fun s n=>ofL (toL s++32::Lib.itoa n)) (fun i s=>s.size<=100000+21*i) (K:=fun z8=>ð (Ñ (ByteArray.size z8+ByteArray.size (ofL [10]))) (some (z8++(ofL [10])))) (by rw[Ï]; exact z) (fun i n s hi ha t=>?_) (fun s kn _=>?_),xa,fX (by simp only[bz,bD]; omega),ç]
  ·simp only[jx,bE]
  ·have x:=h.l n (List.mem_of_getElem? ha);have C:=ų x;obtain⟨q,rfl⟩:∃q,s=ofL q:=⟨_,(mW s).symm⟩;rw[Ï] at t;refine⟨by rw[Ï]; simp at t ⊢; omega,fun kn=>?_⟩;unfold Ş;rw[Ó hi,WK,fX (by simp only[List.length_cons,List.length_nil]; omega),Å ha,zF x,À,ç,fX (by simp only[List.length_append,List.length_cons,List.length_nil]; omega),ö (by omega) (by omega),ç];simp
  ·unfold Ş;rw[ß]
 have o:∀u,u=c.2.2.1->(Â (some (ofL (ė c.1))) fun r1=>ð (Ñ (ByteArray.size r1+ByteArray.size (ofL [99,101,114,116,32]))) (Â (some (ofL (Lib.itoa c.2.1.1))) fun r2=>ð (Ñ (ByteArray.size (r1++(ofL [99,101,114,116,32]))+ByteArray.size r2)) (ð (Ñ (ByteArray.size ((r1++(ofL [99,101,114,116,32]))++r2)+ByteArray.size (ofL [32]))) (Â (some (ofL (Lib.itoa c.2.1.2))) fun k=>ð (Ñ (ByteArray.size (((r1++(ofL [99,101,114,116,32]))++r2)++(ofL [32]))+ByteArray.size k)) (ð (Ñ (ByteArray.size ((((r1++(ofL [99,101,114,116,32]))++r2)++(ofL [32]))++k)+ByteArray.size (ofL (32::oM u++[32])))) (Â (some (ofL (Lib.itoa c.2.2.2.1))) fun p=>ð (Ñ (ByteArray.size (((((r1++(ofL [99,101,114,116,32]))++r2)++(ofL [32]))++k)++(ofL (32::oM u++[32])))+ByteArray.size p)) (ð (Ñ (ByteArray.size ((((((r1++(ofL [99,101,114,116,32]))++r2)++(ofL [32]))++k)++(ofL (32::oM u++[32])))++p)+ByteArray.size (ofL [10,99,104,97,105,110]))) (Ü (fun(j:Val (.pair .str tI)) a=>Ş c.2.2.2.2 j.1 j.2 (fun e b=>a (e,b)) (fun z8=>ð (Ñ (ByteArray.size z8+ByteArray.size (ofL [10]))) (some (z8++(ofL [10]))))) ((((((((r1++(ofL [99,101,114,116,32]))++r2)++(ofL [32]))++k)++(ofL (32::oM u++[32])))++p)++(ofL [10,99,104,97,105,110])),(0:Int))))))))))=some (ofL (Δ c)):=by
  rintro u rfl;simp only[À,ç];rw[fX (by simp only[List.length_append,List.length_cons,List.length_nil]; omega),fX (by simp only[List.length_append,List.length_cons,List.length_nil]; omega),fX (by simp only[List.length_append,List.length_cons,List.length_nil]; omega),fX (by simp only[List.length_append,List.length_cons,List.length_nil]; omega),fX (by simp only[List.length_append,List.length_cons,List.length_nil]; omega),fX (by simp only[List.length_append,List.length_cons,List.length_nil]; omega),fX (by simp only[List.length_append,List.length_cons,List.length_nil]; omega),loop _ (by simp only[List.length_append,List.length_cons,List.length_nil]; omega)];congr 2;unfold Δ;rw[GS];simp[Lx,lR,jx,spL]
 simp only[m,f,WL,WK,mk_up,mk_lo,Tf y,zF h.g,zF h.d,zF h.v]
 cases r:c.2.2.1 with
 |true=>rw[fE]; exact o true r.symm
 |false=>rw[Ľ]; exact o false r.symm
end Go.Proofs.ZzM
end

noncomputable section
namespace Go.Proofs.ZzM
open Go Go.Am
variable {ρ:Type}
def P9 {t:BL} {p:Nat} (h:p<t.length):(N5 (ofL t) (p:Int)=((t[p]'h).toNat:Int)/\Ki (ofL t) (p:Int)=1/\(t[p]'h).toNat<128)\/(N5 (ofL t) (p:Int)≠10/\1<=Ki (ofL t) (p:Int)/\128<=(t[p]'h).toNat):=by
 have a:p<(ofL t).size:=by rw[Ï]; exact h
 have hb:(ofL t)[p]'a=t[p]'h:=by rfl
 by_cases ha:(t[p]'h).toNat<128
 ·left;have:=decode_ascii (ofL t) p a (by rw[hb]; exact ha);unfold N5 Ki;rw[Int.toNat_natCast,this,hb];exact⟨rfl,rfl,ha⟩
 ·right;have:=decode_high (ofL t) p a (by rw[hb]; omega);unfold N5 Ki;rw[Int.toNat_natCast];exact⟨by omega,by omega,by omega⟩
abbrev StP:Type:=Int×Int×Int×ByteArray×Int
abbrev pF (K:StP->so ρ) (v:StP) (kk:StP->so ρ):so ρ:=fT v.1 v.2.1 v.2.2.1 v.2.2.2 (fun a b c d=>kk (a,b,c,d)) K
def Qr {K:StP->so ρ} {t:BL} {v0 v1 v2:Int} {p:Nat} (h:t.length<=p) (a:StP->so ρ):pF K (v0,v1,v2,ofL t,(p:Int)) a=K (v0,v1,v2,ofL t,(p:Int)):=by
 unfold pF fT;rw[Ö (by rw[ź,Ï]; simp[ilt]; omega)]
def FL {K:StP->so ρ} {t:BL} {v0 v1 v2:Int} {p:Nat} (h:p<t.length) (f:t.length<=1000000) (b:StP->so ρ) :
 ((t[p]'h).toNat<128/\pF K (v0,v1,v2,ofL t,(p:Int)) b=if t[p]'h=10 then b (v1,v2,((p+1:Nat):Int),ofL t,((p+1:Nat):Int)) else b (v0,v1,v2,ofL t,((p+1:Nat):Int)))\/(128<=(t[p]'h).toNat/\∃q:Nat,p<q/\pF K (v0,v1,v2,ofL t,(p:Int)) b=b (v0,v1,v2,ofL t,(q:Int))):=by
 unfold pF fT;dsimp only;rw[Þ (by rw[ź,Ï]; simp[ilt]; omega)];rcases P9 h with⟨d,h2,c⟩|⟨d,h2,c⟩
 ·refine .inl ⟨c,?_⟩;rw[d,h2]
  by_cases a:t[p]'h=10
  ·rw[if_pos a,Þ (by rw[a]; rfl),ö (by omega) (by omega)];rfl
  ·have g:¬(t[p]'h).toNat=10:=fun e=>a (UInt8.toNat_inj.1 (e.trans rfl))
   have:((t[p]'h).toNat:Int)≠10:=by omega
   rw[if_neg a,Ö (by simpa[ieq] using this)];rfl
 ·refine .inr ⟨c,(p+Ki (ofL t) p).toNat,by omega,?_⟩;rw[Ö (by simpa[ieq] using d),eF (by omega)]
def NY {K:StP->so ρ} {t:BL} (s:t.length<=1000000):∀(n p v0 v1 v2:Nat),t.length-p<=n->v0<=v1->v1<=v2->v2<=p->v2<=t.length ->
 ∃(a b:Nat) (c:Int) (q:Int),a<=b/\b<=t.length/\∀m,n<m->iter (pF K) m ((v0:Int),(v1:Int),(v2:Int),ofL t,(p:Int))=K ((a:Int),(b:Int),c,ofL t,q):=by
 intro n
 induction n with
 |zero =>
  intro p v0 v1 v2 C j h2 w u;refine⟨v0,v1,v2,p,j,by omega,fun m l=>?_⟩;obtain⟨m,rfl⟩:∃k,m=k+1:=⟨m-1,by omega⟩;exact Qr (by omega) _
 |succ n r =>
  intro p v0 v1 v2 C j h2 w u
  by_cases d:t.length<=p
  ·refine⟨v0,v1,v2,p,j,by omega,fun m l=>?_⟩;obtain⟨m,rfl⟩:∃k,m=k+1:=⟨m-1,by omega⟩;exact Qr d _
  have d:p<t.length:=by omega
  rcases FL (K:=K) (v0:=v0) (v1:=v1) (v2:=v2) d s (fun _=>none) with⟨ha,_⟩|⟨ha,_⟩
  ·by_cases i:t[p]'d=10
   ·obtain⟨a,b,c,q,h,g,f⟩:=r (p+1) v1 v2 (p+1) (by omega) h2 (by omega) (bm _) (by omega);refine⟨a,b,c,q,h,g,fun m l=>?_⟩;obtain⟨m,rfl⟩:∃k,m=k+1:=⟨m-1,by omega⟩;rcases FL (K:=K) (v0:=v0) (v1:=v1) (v2:=v2) d s (iter (pF K) m) with⟨_,e⟩|⟨hb,_⟩
    ·show pF K _ (iter (pF K) m)=_;rw[e,if_pos i,f m (by omega)]
    ·omega
   ·obtain⟨a,b,c,q,h,g,f⟩:=r (p+1) v0 v1 v2 (by omega) j h2 (by omega) u;refine⟨a,b,c,q,h,g,fun m l=>?_⟩;obtain⟨m,rfl⟩:∃k,m=k+1:=⟨m-1,by omega⟩;rcases FL (K:=K) (v0:=v0) (v1:=v1) (v2:=v2) d s (iter (pF K) m) with⟨_,e⟩|⟨hb,_⟩
    ·show pF K _ (iter (pF K) m)=_;rw[e,if_neg i,f m (by omega)]
    ·omega
  ·have v:∀o:StP->so ρ,∃q:Nat,p<q/\(q:Int)=p+Ki (ofL t) p/\pF K ((v0:Int),(v1:Int),(v2:Int),ofL t,(p:Int)) o=o ((v0:Int),(v1:Int),(v2:Int),ofL t,(q:Int)):=fun o=>by
    rcases P9 d with⟨_,_,w⟩|⟨D,E,_⟩
    ·omega
    ·refine⟨(p+Ki (ofL t) p).toNat,by omega,by omega,?_⟩;unfold pF fT;dsimp only;rw[Þ (by rw[ź,Ï]; simp[ilt]; omega),Ö (by simpa[ieq] using D),Int.toNat_of_nonneg (by omega)]
   obtain⟨q,B,A,_⟩:=v fun _=>none;obtain⟨a,b,c,y,h,g,f⟩:=r q v0 v1 v2 (by omega) j h2 (by omega) u;refine⟨a,b,c,y,h,g,fun m l=>?_⟩;obtain⟨m,rfl⟩:∃k,m=k+1:=⟨m-1,by omega⟩;obtain⟨x,_,z,e⟩:=v (iter (pF K) m);show pF K _ (iter (pF K) m)=_;rw[e,show x=q by omega,f m (by omega)]
def nlF:BL->Nat->Nat×Nat×Nat->Nat×Nat×Nat
 |[],_,v=>v
 |b::l,p,v=>nlF l (p+1) (if b=10 then(v.2.1,v.2.2,p+1) else v)
def NX {K:StP->so ρ} {t:BL} (l:t.length<=1000000) (ha:∀x∈t,x.toNat<128):∀(r:BL) (p:Nat) (v:Nat×Nat×Nat),t.drop p=r->p+r.length=t.length->∀m,r.length<m ->
 iter (pF K) m ((v.1:Int),(v.2.1:Int),(v.2.2:Int),ofL t,(p:Int))=K (((nlF r p v).1:Int),((nlF r p v).2.1:Int),((nlF r p v).2.2:Int),ofL t,(t.length:Int)):=by
 intro r
 induction r with
 |nil =>
  intro p v hd c m g;obtain⟨m,rfl⟩:∃k,m=k+1:=⟨m-1,by omega⟩
  have:p=t.length:=by simpa using c
  subst this;exact Qr (bm _) _
 |cons b r h =>
  intro p v hd c m g;obtain⟨m,rfl⟩:∃k,m=k+1:=⟨m-1,by omega⟩
  have f:p<t.length:=by simp at c; omega
  have hb:t[p]'f=b:=by
   have:=dl (xs:=t) (i:=p) (j:=0);rw[hd] at this;simp at this;rw[bo f] at this;exact(Option.some.inj this).symm
  have d:t.drop (p+1)=r:=by rw[<-dK,hd]; rfl
  rcases FL (K:=K) (v0:=v.1) (v1:=v.2.1) (v2:=v.2.2) f l (iter (pF K) m) with⟨_,e⟩|⟨n,_⟩
  ·show pF K _ (iter (pF K) m)=_;rw[e,hb];unfold nlF
   by_cases a:b=10
   ·rw[if_pos a,if_pos a];exact h (p+1) (v.2.1,v.2.2,p+1) d (by simp at c; omega) m (by simp at g; omega)
   ·rw[if_neg a,if_neg a];exact h (p+1) v d (by simp at c; omega) m (by simp at g; omega)
  ·have:=ha _ (List.getElem_mem f); omega
def Aq:∀(a b:BL) (p:Nat) (v:Nat×Nat×Nat),nlF (a++b) p v=nlF b (p+a.length) (nlF a p v)
 |[],_,_,_=>rfl
 |x::a,b,p,v=>by
  show nlF (a++b) (p+1) (if x=10 then(v.2.1,v.2.2,p+1) else v)=nlF b (p+(a.length+1)) (nlF a (p+1) (if x=10 then(v.2.1,v.2.2,p+1) else v));rw[Aq a b,show p+1+a.length=p+(a.length+1) by omega]
def MG:∀(a:BL) (p:Nat) (v:Nat×Nat×Nat),(∀x∈a,x≠10)->nlF a p v=v
 |[],_,_,_=>rfl
 |x::a,p,v,h=>by unfold nlF; rw[if_neg (h x (.head _))]; exact MG a _ _ fun y b=>h y (.tail _ b)
def QJ {a:BL} (p:Nat) (v:Nat×Nat×Nat) (h:∀x∈a,x≠10):nlF (a++[10]) p v=(v.2.1,v.2.2,p+a.length+1):=by
 rw[Aq,MG a _ _ h]; rfl
def MH:∀(c:th BL) (p:Nat) (v:Nat×Nat×Nat),c≠[]->(∀l∈c,∀x∈l,x≠10)->∃a b,nlF (c.flatMap fun l=>l++[10]) p v=(a,b,p+(c.flatMap fun l=>l++[10]).length)
 |[l],p,v,_,h=>⟨v.2.1,v.2.2,by rw[bX,eX,bH,QJ p v (h l (.head _))]; simp[cX]⟩
 |l::k::c,p,v,_,h=>by
  obtain⟨a,b,e⟩:=MH (k::c) (p+(l++[10]).length) (nlF (l++[10]) p v) (by simp) fun x d=>h x (.tail _ d);refine⟨a,b,?_⟩;rw[bX,Aq,e,bp (as:=l++[10]),cX]
def Wp {α:Type} (l:th α):θ l=(l.length:Int):=rfl
def zQ (ws:th BL) (b:ws.length<=1000000) (a:∀w∈ws,w.length<=1000000):nJ (ws.map ofL)=some (ws.map f0):=qv ws b a
def HC (l:BL) (c:UInt8) (a:l.length<=1000000):oK (ofL l) (ofL [c])=some ((JL c l).map ofL):=NJ l c a
def yl (l p:BL) (a:l.length<=1000000):ĭ (ofL l) (ofL p)=some (decide (l.take p.length=p)):=by
 unfold ĭ kf Ė Ŋ;rw[ź,ź,Ï,Ï]
 by_cases h:p.length<=l.length
 ·rw[Þ (by simpa[ige] using h),bU,ŋ (by simp[ile]; omega),ś,nQ]; simp
 ·rw[Ö (by simp[ige]; omega)]
  have:l.take p.length≠p:=fun e=>by have:=congrArg List.length e; simp at this; omega
  simp[this]
def κ (t:BL) (a b:Nat):th BL:=JL 32 (Lib.trimSuffix ((t.take b).drop a) [10])++[[],[],[],[],[]]
def oo (t:BL) (b:Nat):th Int:=((JL 32 (Lib.trimSuffix ((t.take t.length).drop b) [10])).drop 1).map f0
def yZ (t:BL) (a b:Nat) (k:ë):jF:=(k,(f0 ((κ t a b).getD 1 []),f0 ((κ t a b).getD 2 [])),decide ((κ t a b).getD 3 []=[117,112,112,101,114]),f0 ((κ t a b).getD 4 []),oo t b)
def xL (t:BL) (a b:Nat):jF×Int :=
 if a=0 then(rD,7) else if ((t.take t.length).drop a).take 5≠[99,101,114,116,32] then(rD,7) else if ((t.take t.length).drop b).take 5≠[99,104,97,105,110] then(rD,7) else
 match FE (t.take a) with
 |none=>(rD,7)
 |some k=>if 80<(oo t b).length\/Δ (yZ t a b k)≠t then(rD,7) else(yZ t a b k,0)
def ι.fine {b:ë} (h:ι b):PL b:=⟨h.size.w,fun g a=>(h.prints.gauges g a _ (by simp[Nb])).i64⟩
def Fk {t:BL} {a b:Nat} {k:ë} (h:ι k):LZ (yZ t a b k):=⟨h.fine,qg _,qg _,qg _,fun n c=>by
 obtain⟨w,_,rfl⟩:=cj.1 (show n∈oo t b from c)
 exact qg w⟩
def Sd (l:BL):1<=(JL 32 l).length/\(JL 32 l).length<=l.length+1:=by
 obtain⟨w,ws,e⟩:=GQ 32 l [];have:=zB 32 l [];exact⟨by show 1<=(JK 32 [] l).length; rw[e]; simp,this⟩
def Gw {ws:th BL} (i:Nat) {c:Int} (b:c=i) (h:i<ws.length) (f:Int->so ρ):ø (ws.map f0) c f=f (f0 (ws.getD i [])):=by
 subst b;rw[Å (a:=f0 (ws.getD i [])) (by rw[dt,eE,bo h]; rfl)]
end Go.Proofs.ZzM
end

noncomputable section
namespace Go.Proofs.ZzM
open Go Go.Am
def zU {α:Type} [DecidableEq α] {l m:th α} (d:l.length=m.length) (h:ć (fun i a=>if m[i]?=some a then none else some false) 0 l=none):l=m:=by
 have:=Ņ.1 h;refine List.ext_getElem d fun i e h2=>?_;have b:=this i l[i] (bo e);rw[bK] at b
 split at b
 ·rename_i c;rw[bo h2] at c;exact(Option.some.inj c).symm
 ·cases b
def zT {α:Type} [DecidableEq α] {l m:th α} {b:Bool} (h:ć (fun i a=>if m[i]?=some a then none else some false) 0 l=some b):b=false/\l≠m:=by
 constructor
 ·have:∀(k:Nat) (x:th α) (b:Bool),ć (fun i a=>if m[i]?=some a then none else some false) k x=some b->b=false:=by
   intro k x
   induction x generalizing k with
   |nil=>intro b h; cases h
   |cons a t f =>
    intro b h;unfold ć at h
    split at h
    ·rename_i c d
     split at d
     ·cases d
     ·cases d; cases h; rfl
    ·exact f _ _ h
  exact this _ _ _ h
 ·intro e;subst e;rw[Ņ.2 fun j a ha=>by rw[bK,if_pos ha]] at h;cases h
def Tl {l m:th Int} (g:l.length<=1000000):jC l m=some (decide (l=m)):=by
 unfold jC vl;rw[ó,ó]
 by_cases c:l.length=m.length
 ·rw[Ö (by simp[ine,c])];refine dc (Ų l (fun i a=>if m[i]?=some a then none else some false) some (some true) (fun i a hi ha kn=>?_) (fun kn=>?_)) ?_
  ·try dsimp only
   unfold fw;have d:m[i]?=some m[i]:=List.getElem?_eq_getElem (by omega);rw[Ó hi,Å ha,Å d,Í hi (by omega),d,œ]
   by_cases h:a=m[i]
   ·simp[ine,h]
   ·have h':¬m[i]=a:=fun e=>h e.symm;simp[ine,h,h']
  ·try dsimp only
   unfold fw;rw[ß]
  ·cases h:ć (fun i a=>if m[i]?=some a then none else some false) 0 l with
   |none=>simp[zU c h]
   |some b =>
    obtain⟨f,h2⟩:=zT h;rw[f,decide_eq_false h2]
 ·rw[Þ (bne_iff_ne.2 (by omega)),decide_eq_false (fun e=>c (by rw[e]))]
def J0 {l m:th (Int×Int)} (g:l.length<=1000000):ω l m=some (decide (l=m)):=by
 unfold ω rX;rw[ó,ó]
 by_cases d:l.length=m.length
 ·rw[Ö (by simp[ine,d])];refine dc (Ų l (fun i a=>if m[i]?=some a then none else some false) some (some true) (fun i a hi ha kn=>?_) (fun kn=>?_)) ?_
  ·try dsimp only
   unfold Ι;have f:m[i]?=some m[i]:=List.getElem?_eq_getElem (by omega);rw[Ó hi,Å ha,Å f,Í hi (by omega),f,œ]
   have e:(!(fm a.1 m[i].1&&(fm a.2 m[i].2&&true)))=decide (¬(m[i]=a)):=by
    rw[cq];simp only[fm,Bool.and_true,ci,Bool.and_eq_false_iff,decide_eq_false_iff_not,decide_eq_true_eq];constructor
    ·intro h e; rw[e] at h; simp at h
    ·intro h
     by_cases c:a.1=m[i].1
     ·by_cases h2:a.2=m[i].2
      ·exact absurd (Prod.ext c h2).symm h
      ·exact .inr h2
     ·exact .inl c
   rw[e]
   by_cases h:m[i]=a
   ·simp[h]
   ·simp[h]
  ·try dsimp only
   unfold Ι;rw[ß]
  ·cases h:ć (fun i a=>if m[i]?=some a then none else some false) 0 l with
   |none=>simp[zU d h]
   |some b =>
    obtain⟨c,h2⟩:=zT h;simp[c,h2]
 ·rw[Þ (by simp[ine]; omega)];have:l≠m:=fun e=>d (by rw[e]);simp[this]
def LU {l m:th Int} (g:l.length<=1000000):Ρ l m=some (decide (l=m)):=by
 unfold Ρ vd;rw[ó,ó]
 by_cases c:l.length=m.length
 ·rw[Ö (by simp[ine,c])];refine dc (Ų l (fun i a=>if m[i]?=some a then none else some false) some (some true) (fun i a hi ha kn=>?_) (fun kn=>?_)) ?_
  ·try dsimp only
   unfold fu;have d:m[i]?=some m[i]:=List.getElem?_eq_getElem (by omega);rw[Ó hi,Å ha,Å d,Í hi (by omega),d,œ]
   by_cases h:a=m[i]
   ·simp[ine,h]
   ·have h':¬m[i]=a:=fun e=>h e.symm;simp[ine,h,h']
  ·try dsimp only
   unfold fu;rw[ß]
  ·cases h:ć (fun i a=>if m[i]?=some a then none else some false) 0 l with
   |none=>simp[zU c h]
   |some b =>
    obtain⟨f,h2⟩:=zT h;simp[f,h2]
 ·rw[Þ (by simp[ine]; omega)];have:l≠m:=fun e=>c (by rw[e]);simp[this]
def vG {ρ α:Type} (l:th α) (K:so ρ) {f:Int->(Int->so ρ)->so ρ} (h:∀(i:Nat) (a:α),i<l.length->l[i]?=some a->∀kn,f i kn=kn ((i:Int)+1)) (b:∀kn,f l.length kn=K):Ü f 0=K:=by
 refine dc (iK l (fun _=>false) (fun _=>K) K (fun i a hi ha kn=>by rw[h i a hi ha kn]; rfl) b) ?_;rw[dz.2 (by simp)]
def DP {l:th (Int×Int)} (a:l.length<=1000000):ω l l=some true:=by rw[J0 a]; simp
def wt {l:th Int} (a:l.length<=1000000):Ρ l l=some true:=by rw[LU a]; simp
def za {c:Cmp} (b:c.2.2.1.length<=1000) (a:c.2.2.2.1.length<=1000):fF c c=some true:=by
 unfold fF oc;rw[wt (by omega),À,wt (by omega),À];simp[ieq,fm]
def S7 {b:ë} (c:Γ b):vU b b=some true:=by
 have h:=c.gauges; have h2:=c.uses; have g:=c.loans; have f:=c.compares; have e:=c.looks;unfold vU IG;rw[Ö (by simp[fm]),Ö (show ine (â b.2.1) (â b.2.1)=false by simp[ine]),Ö (show ine (â b.2.2.1) (â b.2.2.1)=false by simp[ine]),Ö (show ine (â b.2.2.2.1) (â b.2.2.2.1)=false by simp[ine]),Ö (show ine (â b.2.2.2.2.1) (â b.2.2.2.2.1)=false by simp[ine])];refine vG b.2.1 _ (fun i a hi ha kn=>?_) (fun kn=>?_)
 ·try dsimp only
  unfold kV;rw[Ó hi,Å ha,Å ha,Í hi (by omega)];simp[fm]
 ·try dsimp only
  unfold kV;rw[ß];dsimp only;refine vG b.2.2.1 _ (fun i a hi ha kn=>?_) (fun kn=>?_)
  ·try dsimp only
   unfold kU;rw[Ó hi,Å ha,Å ha,Í hi (by omega)];simp[fm]
  ·try dsimp only
   unfold kU;rw[ß];dsimp only;refine vG b.2.2.2.1 _ (fun i a hi ha kn=>?_) (fun kn=>?_)
   ·try dsimp only
    unfold kT;rw[Ó hi,Å ha,Å ha,Í hi (by omega)];simp[fm]
   ·try dsimp only
    unfold kT;rw[ß];dsimp only;refine vG b.2.2.2.2.1 _ (fun i a hi ha kn=>?_) (fun kn=>?_)
    ·try dsimp only
     unfold kS;have d:=c.piles a (List.mem_of_getElem? ha);rw[Ó hi,Å ha,Å ha,za d.1 d.2,À,Í hi (by omega)];rfl
    ·try dsimp only
     unfold kS;rw[ß];dsimp only;rw[DP (by omega),À]
end Go.Proofs.ZzM
end

noncomputable section
namespace Go.Proofs.ZzM
open Go Go.Am
variable {ρ:Type}
def PT (t:BL) (a b:Nat):(Lib.trimSuffix ((t.take b).drop a) [10]).length<=t.length:=by
 have:=Fu ((t.take b).drop a) [10];rw[dJ,bN] at this;omega
def TN {α:Type} (l:th α):l.take l.length=l:=ff
def P2 {γ:Type} {K:StP->so γ} {t:BL} (s:t.length<=100000) (e:∀p:Nat×Nat×Nat,(∀x∈t,x.toNat<128)->p=nlF t 0 (0,0,0)->p.1<=p.2.1/\p.2.1<=t.length) (i:∀a:Nat,(∀x∈t,x.toNat<128)->a=(nlF t 0 (0,0,0)).1->(t.take a).length<=60000) (g:(∀x∈t,x.toNat<128)\/t.length<=60000) {R:Nat->Nat->γ} (rest:∀(a b:Nat) (c q:Int),a<=b->b<=t.length->(t.take a).length<=60000->K ((a:Int),(b:Int),c,ofL t,q)=some (R a b)) :
 ∃a b:Nat,a<=b/\b<=t.length/\Ü (pF K) ((0:Int),(0:Int),(0:Int),ofL t,(0:Int))=some (R a b)/\((∀x∈t,x.toNat<128)->a=(nlF t 0 (0,0,0)).1/\b=(nlF t 0 (0,0,0)).2.1):=by
 have d:((0:Int),(0:Int),(0:Int),ofL t,(0:Int))=(((0:Nat):Int),((0:Nat):Int),((0:Nat):Int),ofL t,((0:Nat):Int)):=rfl
 by_cases f:∀x∈t,x.toNat<128
 ·obtain⟨n,l⟩:=e _ f rfl;refine⟨_,_,n,l,Gn (t.length+1) fun m o=>?_,fun _=>⟨rfl,rfl⟩⟩;rw[d];refine(NX (by omega) f t 0 (0,0,0) rfl (by simp) m (by omega)).trans ?_;exact rest _ _ _ _ n l (i _ f rfl)
 ·have j:t.length<=60000:=g.resolve_left f;obtain⟨a,b,c,q,k,h2,r⟩:=NY (K:=K) (show t.length<=1000000 by omega) t.length 0 0 0 0 (by omega) (bm _) (bm _) (bm _) (bO _);refine⟨a,b,k,h2,Gn (t.length+1) fun m o=>?_,fun h=>absurd h f⟩;rw[d];refine(r m (by omega)).trans ?_;exact rest _ _ _ _ k h2 (by simp; omega)
def J1 {t:BL} (z:t.length<=100000) (e:∀p:Nat×Nat×Nat,(∀x∈t,x.toNat<128)->p=nlF t 0 (0,0,0)->p.1<=p.2.1/\p.2.1<=t.length) (s:∀a:Nat,(∀x∈t,x.toNat<128)->a=(nlF t 0 (0,0,0)).1->(t.take a).length<=60000) (r:(∀x∈t,x.toNat<128)\/t.length<=60000) :
 ∃a b:Nat,a<=b/\b<=t.length/\ì (ofL t)=some (xL t a b)/\((∀x∈t,x.toNat<128)->a=(nlF t 0 (0,0,0)).1/\b=(nlF t 0 (0,0,0)).2.1):=by
 show ∃a b:Nat,a<=b/\b<=t.length/\vr (ofL t) some=some (xL t a b)/\_;unfold vr;refine P2 z e s r (R:=xL t) fun a b c q E hb F=>?_;dsimp only;unfold xL
 by_cases h0:a=0
 ·rw[Þ (by simp[ieq,h0]),if_pos h0]; rfl
 rw[Ö (by simp[ieq,h0]),if_neg h0,Ï,ŋ (by simp[ile]; omega),bU,bU,ś,ś,ś,ś];have mk1:ByteArray.mk #[99,101,114,116,32]=ofL [99,101,114,116,32]:=rfl;have l:ByteArray.mk #[99,104,97,105,110]=ofL [99,104,97,105,110]:=rfl;have j:ByteArray.mk #[117,112,112,101,114]=ofL [117,112,112,101,114]:=rfl;have m:[ByteArray.mk #[],ByteArray.mk #[],ByteArray.mk #[],ByteArray.mk #[],ByteArray.mk #[]]=([[],[],[],[],[]]:th BL).map ofL:=rfl;rw[mk1,l,j,WL,WK,m,yl _ _ (by simp; omega),À]
 by_cases i:((t.take t.length).drop a).take 5=[99,101,114,116,32]
 case neg=>rw[if_pos i,Þ (by simpa using i)]; rfl
 rw[if_neg (by simpa using i),Ö (by simpa using i),ŋ (by simp[ile]; omega),yl _ _ (by simp; omega),À]
 by_cases h2:((t.take t.length).drop b).take 5=[99,104,97,105,110]
 case neg=>rw[if_pos h2,Þ (by simpa using h2)]; rfl
 rw[if_neg (by simpa using h2),Ö (by simpa using h2),ŋ (by simp[ile]; omega)];rw[show(List.drop 0 (t.take a))=t.take a from rfl,XA F,À]
 cases A:FE (t.take a) with
 |none=>rw[Þ (by rfl)]; rfl
 |some k =>
 have u:=(wF A).1;dsimp only;rw[Ö (by rfl),ŋ (by simp[ile]; omega),LR _ _ (by simp; omega),À,HC _ _ (by have:=PT t a b; omega),À];have D:=Sd (Lib.trimSuffix ((t.take b).drop a) [10])
 have y:(Lib.trimSuffix ((t.take b).drop a) [10]).length<=100000:=by have:=PT t a b; omega
 have C:=Sd (Lib.trimSuffix ((t.take t.length).drop b) [10])
 have v:(Lib.trimSuffix ((t.take t.length).drop b) [10]).length<=100000:=by have:=PT t b t.length; omega
 have o:∀w∈κ t a b,w.length<=1000000:=fun w d=>by
  unfold κ at d;rcases List.mem_append.1 d with d|d
  ·have:=wi 32 _ _ w d; simp at this; omega
  ·simp at d; subst d; simp
 have B:6<=(κ t a b).length/\(κ t a b).length<=100006:=by unfold κ; simp; omega
 rw[Ð (by simp only[cd,bz,bD]; omega),Am.iff_true,<-dZ];rw[show(JL 32 (Lib.trimSuffix ((t.take b).drop a) [10])++[[],[],[],[],[]])=κ t a b from rfl,zQ _ (by omega) o,À,Gw (c:=(1:Int)) 1 rfl (by omega),Gw (c:=(2:Int)) 2 rfl (by omega),ŋ (by simp[ilt,θ]; omega)];rw[MI (a:=ofL ((κ t a b).getD 3 [])) (by rw[dt,eE,bo (by omega)]; rfl),Gw (c:=(4:Int)) 4 rfl (by omega),ŋ (by simp[ile]; omega),LR _ _ (by simp; omega),À,HC _ _ (by omega),À];rw[ŋ (by rw[Wp,cd]; simp only[ile,decide_eq_true_eq]; omega),cm (by simp),<-List.map_drop,zQ _ (by rw[dJ]; omega) (fun w d=>by have:=wi 32 _ _ w (eD d); simp only[bD] at this; omega),À,nQ];have n:=CS (c:=yZ t a b k) (Fk u);rw[show yZ t a b k=(k,(f0 ((κ t a b).getD 1 []),f0 ((κ t a b).getD 2 [])),decide ((κ t a b).getD 3 []=[117,112,112,101,114]),f0 ((κ t a b).getD 4 []),oo t b) from rfl] at n ⊢;rw[if_neg (by simp[(ii k).2 u])] at n;rw[show((JL 32 (Lib.trimSuffix ((t.take t.length).drop b) [10])).drop 1).map f0=oo t b from rfl,n,À]
 by_cases g:80<(oo t b).length
 ·rw[if_pos g,if_pos (.inl g),Þ (by rfl)]; rfl
 ·rw[if_neg g,Ö (by rfl),nQ]
  by_cases f:Δ (k,(f0 ((κ t a b).getD 1 []),f0 ((κ t a b).getD 2 [])),decide ((κ t a b).getD 3 []=[117,112,112,101,114]),f0 ((κ t a b).getD 4 []),oo t b)=t
  ·rw[if_neg (by rintro(h|h); exact g h; exact h f),Ö (by rw[decide_eq_true f]; rfl)]
  ·rw[if_pos (.inr f),Þ (by rw[decide_eq_false f]; rfl)]; rfl
def M8 (n:Int):∀x∈Lib.itoa n,x.toNat<128:=fun x a=>by have:=ES n x a; omega
def V6 {ws:th BL} (h:∀w∈ws,∀x∈w,x.toNat<128):∀x∈spL 32 ws,x.toNat<128:=by
 intro x a;unfold spL at a;obtain⟨v,b,a⟩:=List.mem_flatMap.1 a;rcases List.mem_cons.1 a with rfl|a
 ·decide
 ·exact h v b x a
def ip (ns:th Int):∀w∈fO ns,∀x∈w,x.toNat<128:=fun w a=>by
 obtain⟨n,_,rfl⟩:=cj.1 a;exact M8 n
def BZ {w:BL} {ws:th BL} (b:∀x∈w,x.toNat<128) (h:∀w∈ws,∀x∈w,x.toNat<128):∀x∈jx w ws,x.toNat<128:=fun x a=>(bq.1 a).elim (b x) (V6 h x)
def L3 {b:ë}:∀p∈ŕ b,(∀x∈p.1,x.toNat<128)/\∀v∈p.2,∀x∈v,x.toNat<128:=by
 have a:∀w:BL,(w.all fun x=>decide (x.toNat<128))=true->∀x∈w,x.toNat<128:=fun w h x f=>of_decide_eq_true (List.all_eq_true.1 h x f);intro p e;unfold ŕ at e;simp only[List.mem_cons,List.mem_append,List.mem_map] at e;rcases e with rfl|⟨g,k,rfl⟩|⟨u,i,rfl⟩|⟨l,j,rfl⟩|⟨d,hd,rfl⟩|⟨u,i,rfl⟩
 ·exact⟨a _ rfl,ip _⟩
 ·exact⟨a _ rfl,ip _⟩
 ·exact⟨a _ rfl,ip _⟩
 ·exact⟨a _ rfl,ip _⟩
 ·refine⟨a _ rfl,fun v c=>?_⟩;simp only[Pb,bq,bw] at c;rcases c with c|(rfl|c)|rfl|c
  ·exact ip _ v c
  ·exact a _ rfl
  ·exact ip _ v c
  ·exact a _ rfl
  ·exact ip _ v c
 ·exact⟨a _ rfl,ip _⟩
def PZ (b:ë):∀x∈ė b,x.toNat<128:=by
 intro x a;unfold ė at a;obtain⟨p,c,a⟩:=List.mem_flatMap.1 a;rcases List.mem_append.1 a with a|a
 ·exact BZ (L3 p c).1 (L3 p c).2 x a
 ·simp at a; subst a; decide
def P6 (u:Bool):∀x∈oM u,x.toNat<128:=by cases u<;>decide
def Sq (c:jF):∀x∈oD c,x.toNat<128:=by
 refine BZ (by decide) fun w a=>?_;unfold JO at a;rcases List.mem_append.1 a with a|a
 ·exact ip _ w a
 ·simp only[bw,cw,or_false] at a;rcases a with rfl|rfl
  ·exact P6 _
  ·exact M8 _
def Pg (c:jF):∀x∈lR c,x.toNat<128:=BZ (by decide) (ip _)
def Hy (c:jF):∀x∈Δ c,x.toNat<128:=by
 intro x a;unfold Δ at a;simp only[List.mem_append,List.mem_singleton] at a;rcases a with a|(a|rfl)|a|rfl
 ·exact PZ _ x a
 ·exact Sq _ x a
 ·decide
 ·exact Pg _ x a
 ·decide
def Nx (c:jF) (d:UInt8) (hd:d=10\/d=32):∀w∈JO c,∀x∈w,x≠d:=by
 have b:d.toNat≠45/\¬(48<=d.toNat/\d.toNat<=57):=by rcases hd with rfl|rfl<;>decide
 intro w a;unfold JO at a;rcases List.mem_append.1 a with a|a
 ·exact ő d b _ w a
 ·simp only[bw,cw,or_false] at a;rcases a with rfl|rfl
  ·rcases hd with rfl|rfl<;>cases c.2.2.1<;>decide
  ·exact ő d b [c.2.2.2.1] _ (by simp)
def Vw {c:UInt8} (d:c≠32) {ws:th BL} (h:∀w∈ws,∀x∈w,x≠c):∀x∈spL 32 ws,x≠c:=by
 intro x a;unfold spL at a;obtain⟨v,b,a⟩:=List.mem_flatMap.1 a;rcases List.mem_cons.1 a with rfl|a
 ·exact d.symm
 ·exact h v b x a
def wno:∀x∈([99,101,114,116]:BL),x≠10:=by decide
def wnc:∀x∈([99,104,97,105,110]:BL),x≠10:=by decide
def UU (c:jF):∀x∈oD c,x≠10:=fun x a=>(bq.1 a).elim (fun h=>wno x h) (Vw (by decide) (Nx c 10 (.inl rfl)) x)
def Sm (c:jF):∀x∈lR c,x≠10:=fun x a=>(bq.1 a).elim (fun h=>wnc x h) (Vw (by decide) (ő 10 (by decide) _) x)
def TM (c:jF):nlF (Δ c) 0 (0,0,0)=((ė c.1).length,(ė c.1).length+((oD c).length+1),(Δ c).length):=by
 unfold Δ;rw[Aq,Aq,QJ _ _ (Sm c),QJ _ _ (UU c)]
 obtain⟨a,b,e⟩:=MH ((ŕ c.1).map ũ) 0 (0,0,0) (by simp[ŕ]) (fun l f=>by
  obtain⟨p,d,rfl⟩:=cj.1 f
  exact Jg d)
 rw[Ma,e];simp only[bp,bz,bD]
 refine Prod.ext ?_ (Prod.ext ?_ ?_)<;>simp only<;>omega
def PY (b:ë):0<(ė b).length:=by
 unfold ė ŕ;rw[List.flatMap_cons,List.length_append,List.length_append,List.length_cons];omega
def Sn {c:jF} (h:LZ c) (k:ι c.1) (q:c.2.2.2.2.length<=80):xL (Δ c) (ė c.1).length ((ė c.1).length+((oD c).length+1))=(c,0):=by
 have f:((Δ c).take (Δ c).length).drop (ė c.1).length=(oD c++[10])++(lR c++[10]):=by
  rw[TN]; unfold Δ; exact List.drop_left
 have e:((Δ c).take (Δ c).length).drop ((ė c.1).length+((oD c).length+1))=lR c++[10]:=by
  rw[<-dK,f];exact List.drop_left' (by simp)
 have o:(Δ c).take (ė c.1).length=ė c.1:=by unfold Δ; exact List.take_left
 have m:((Δ c).take ((ė c.1).length+((oD c).length+1))).drop (ė c.1).length=oD c++[10]:=by
  unfold Δ;rw[List.take_append,List.take_of_length_le (by omega),show(ė c.1).length+((oD c).length+1)-(ė c.1).length=(oD c++[10]).length by simp,List.take_left,List.drop_left]
 have i:κ (Δ c) (ė c.1).length ((ė c.1).length+((oD c).length+1))=([99,101,114,116]::JO c)++[[],[],[],[],[]]:=by
  unfold κ;rw[m,Kj];rw[show oD c=[99,101,114,116]++spL 32 (JO c) from rfl,Cu 32 _ _ (by decide) (Nx c 32 (.inr rfl))]
 have b:oo (Δ c) ((ė c.1).length+((oD c).length+1))=c.2.2.2.2:=by
  unfold oo;rw[e,Kj,show lR c=[99,104,97,105,110]++spL 32 (fO c.2.2.2.2) from rfl,Cu 32 _ _ (by decide) (ő 32 (by decide) _)];rw[List.drop_succ_cons,List.drop_zero,List.map_map];exact(List.map_congr_left fun n j=>jS (h.l n j)).trans (List.map_id _)
 have a:yZ (Δ c) (ė c.1).length ((ė c.1).length+((oD c).length+1)) c.1=c:=by
  unfold yZ;rw[i,b];refine Prod.ext rfl (Prod.ext (Prod.ext ?_ ?_) (Prod.ext ?_ (Prod.ext ?_ rfl)))
  ·exact jS h.g
  ·exact jS h.d
  ·show decide (oM c.2.2.1=[117,112,112,101,114])=c.2.2.1
   cases c.2.2.1<;>decide
  ·exact jS h.v
 unfold xL;have p:=PY c.1;rw[if_neg (by omega),f,e,if_neg (by simp[oD,JO,jx,spL]),if_neg (by simp[lR,jx]),o,Mp k];dsimp only;rw[b,a,if_neg (by rintro(h|h); omega; exact h rfl)]
def PX {c:jF} (h:LZ c) (b:ι c.1) (k:c.2.2.2.2.length<=80):(Δ c).length<=70000:=by
 have hb:=ud (b.prints.mono fun n a=>a.i64)
 have j:(lR c).length<=3000:=by
  have:=ĉ (w:=[99,104,97,105,110]) h.l; simp only[List.length_cons,List.length_nil] at this; unfold lR; omega
 have i:(Lx c).length<=100:=by
  show(jx [99,101,114,116] (fO [c.2.1.1,c.2.1.2])).length<=100;have:=ĉ (w:=[99,101,114,116]) (ns:=[c.2.1.1,c.2.1.2]) (by simp[h.g,h.d]); simp only[bz,bD] at this ⊢; omega
 have f:=ų h.v;have e:=zR c.2.2.1;unfold Δ;rw[GS];simp only[List.length_append,List.length_cons,List.length_nil];omega
def LV {c:jF} (h:LZ c) (e:ι c.1) (g:c.2.2.2.2.length<=80):ì (ofL (Δ c))=some (c,0):=by
 have d:=TM c;have f:=PX h e g;have hb:=ud (e.prints.mono fun n d=>d.i64)
 obtain⟨a,b,l,h2,k,j⟩:=J1 (t:=Δ c) (by omega) (fun p _ i=>by
  rw[i,d]; refine⟨by simp only; omega,?_⟩;show _<=(Δ c).length
  unfold Δ; simp only[List.length_append,List.length_cons,List.length_nil]; omega) (fun a _ ha=>by rw[ha,d,List.length_take]; simp only; omega) (.inl (Hy c))
 obtain⟨rfl,rfl⟩:=j (Hy c);rw[k,d];exact congrArg some (Sn h e g)
def PE {t:BL} (z:t.length<=60000):∃y e,ì (ofL t)=some (y,e)/\((e=7/\y=rD)\/(e=0/\ý y=some (ofL t,0))):=by
 have f:∀(r:BL) (p:Nat) (v:Nat×Nat×Nat),v.1<=v.2.1->v.2.1<=v.2.2->v.2.2<=p->(nlF r p v).1<=(nlF r p v).2.1/\(nlF r p v).2.1<=(nlF r p v).2.2/\(nlF r p v).2.2<=p+r.length:=by
  intro r
  induction r with
  |nil=>intro p v m h2 i; exact⟨m,h2,i⟩
  |cons b r q =>
   intro p v m h2 i;show(nlF r (p+1) (if b=10 then(v.2.1,v.2.2,p+1) else v)).1<=(nlF r (p+1) (if b=10 then(v.2.1,v.2.2,p+1) else v)).2.1/\(nlF r (p+1) (if b=10 then(v.2.1,v.2.2,p+1) else v)).2.1<=(nlF r (p+1) (if b=10 then(v.2.1,v.2.2,p+1) else v)).2.2/\(nlF r (p+1) (if b=10 then(v.2.1,v.2.2,p+1) else v)).2.2<=p+(r.length+1)
   by_cases j:b=10
   ·rw[if_pos j];have d:=q (p+1) (v.2.1,v.2.2,p+1) h2 (show v.2.2<=p+1 by omega) (show p+1<=p+1 by omega);exact⟨d.1,d.2.1,by have:=d.2.2; omega⟩
   ·rw[if_neg j];have d:=q (p+1) v m h2 (by omega);exact⟨d.1,d.2.1,by have:=d.2.2; omega⟩
 have o:=f t 0 (0,0,0) (Nat.le_refl _) (Nat.le_refl _) (Nat.le_refl _);obtain⟨a,b,m,h2,i,_⟩:=J1 (t:=t) (by omega) (fun p _ l=>by rw[l]; exact⟨o.1,by have:=o.2.1; have:=o.2.2; omega⟩) (fun a _ ha=>by rw[List.length_take]; omega) (.inr z);obtain⟨r,g⟩:∃r,r=xL t a b:=⟨_,rfl⟩;rw[<-g] at i;refine⟨r.1,r.2,i,?_⟩;rw[g];unfold xL
 by_cases x:a=0
 ·rw[if_pos x]; exact .inl ⟨rfl,rfl⟩
 rw[if_neg x]
 by_cases w:((t.take t.length).drop a).take 5≠[99,101,114,116,32]
 ·rw[if_pos w]; exact .inl ⟨rfl,rfl⟩
 rw[if_neg w]
 by_cases u:((t.take t.length).drop b).take 5≠[99,104,97,105,110]
 ·rw[if_pos u]; exact .inl ⟨rfl,rfl⟩
 rw[if_neg u]
 cases A:FE (t.take a) with
 |none=>exact .inl ⟨rfl,rfl⟩
 |some k =>
  have s:=(wF A).1;dsimp only
  by_cases n:80<(oo t b).length\/Δ (yZ t a b k)≠t
  ·rw[if_pos n]; exact .inl ⟨rfl,rfl⟩
  ·rw[if_neg n];have C:¬80<(oo t b).length:=fun h=>n (.inl h);have B:Δ (yZ t a b k)=t:=eO fun h=>n (.inr h);refine .inr ⟨rfl,?_⟩;have l:=CS (c:=yZ t a b k) (Fk s);rw[if_neg (by simp[show(yZ t a b k).1=k from rfl,(ii k).2 s]),show(yZ t a b k).2.2.2.2=oo t b from rfl,if_neg C,B] at l;exact l
end Go.Proofs.ZzM
end

noncomputable section
namespace Go.Proofs.ZzM
open Go Go.Am
def CQ {c:jF} (a:Γ c.1) (b:c.2.2.2.2.length<=1000000):Ô c c=some true:=by
 unfold Ô uT;rw[S7 a,À,fE,Þ (by simp[fm]),Þ (by simp),Þ (by simp[ieq]),Tl b,À];simp
def S8:Ô rD rD=some true:=CQ ⟨by simp[rD,iP],by simp[rD,iP],by simp[rD,iP],by simp[rD,iP],by simp[rD,iP],by simp[rD,iP]⟩ (by simp[rD])
def PW (a:Ò=some true) {c:jF} (q:∀g∈c.1.2.1,I64 g.2.2.2.2.1.1) (r:I64 c.2.1.1) (hd:I64 c.2.1.2) (o:I64 c.2.2.2.1) (u:∀n∈c.2.2.2.2,I64 n) (s:ByteArray):ku c s=some true:=by
 unfold ku ke;rw[few_ok,À,a];simp only[À]
 by_cases h:fewP c.1=true
 case neg=>rw[Þ (by simp[h])]
 rw[Ö (by simp[h])]
 by_cases v:c.2.2.2.2.length<=90
 case neg=>rw[Þ (by rw[ó]; simp[igt]; omega)]
 rw[Ö (by rw[ó]; simp[igt]; omega)];obtain⟨t,rfl⟩:∃t,s=ofL t:=⟨_,(mW s).symm⟩
 by_cases x:t.length<=4000
 case neg=>rw[Þ (by rw[ź,Ï]; simp[igt]; omega)]
 rw[Ö (by rw[ź,Ï]; simp[igt]; omega)];have f:=qN h;have i:LZ c:=⟨⟨f.w,q⟩,r,hd,o,u⟩;rw[CS i,À,Tj f,À]
 -- the text that is read
 obtain⟨y,e,p,m⟩:=PE (t:=t) (by omega)
 have rest:∀K:so Bool,K=(Â (ì (ofL t)) fun d=>ifb (ine d.2 (0:Int)) (ifb true (ifb (ieq d.2 (7:Int)) (Â (Ô d.1 ((((0:Int),(0:Int)),[],[],[],[],[]),((0:Int),(0:Int)),false,(0:Int),[])) fun l=>some l) (some false)) (some false)) (Â (ý d.1) fun b=>ifb true (ifb (ieq b.2 (0:Int)) (some (b.1.toList==(ofL t).toList)) (some false)) (some false)))->K=some true:=by
  rintro K rfl;rw[p,À];rcases m with⟨rfl,rfl⟩|⟨rfl,h0⟩
  ·dsimp only;rw[Þ (by rfl),fE,Þ (by rfl)];have:=S8;rw[show rD=((((0:Int),(0:Int)),[],[],[],[],[]),((0:Int),(0:Int)),false,(0:Int),[]) from rfl] at this ⊢;rw[this,À]
  ·dsimp only;rw[Ö (by rfl),h0,À,fE,Þ (by rfl)];simp
 by_cases h0:fo c.1=0
 case neg =>
  rw[if_pos h0,Ö (by simpa[ieq] using h0),Ö (by simp[ine]),Þ (by simpa[ine] using h0),Ö (by rw[show ByteArray.mk #[]=ofL [] from rfl,nQ]; rfl),Ö (by simpa[ieq] using h0),Ö (by simpa[ieq] using h0)];exact rest _ rfl
 have j:=(ii c.1).1 h0;rw[if_neg (by simp[h0]),h0,Þ (by rfl)]
 by_cases k:80<c.2.2.2.2.length
 ·rw[if_pos k,Þ (by rw[ó]; simp[igt]; omega),Ö (by rfl),Ö (by rw[show ByteArray.mk #[]=ofL [] from rfl,nQ]; rfl)];exact rest _ rfl
 ·rw[if_neg k,Ö (by rw[ó]; simp[igt]; omega),Ö (by rfl),Ö (by rfl),Þ (by rfl),PF i j (by omega),À,Ö (by rw[nQ]; simp),Þ (by rfl),LV i j (by omega),À,Ö (by rfl),CQ f (by omega),À,Ö (by rfl)];exact rest _ rfl
end Go.Proofs.ZzM
end
