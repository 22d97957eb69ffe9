/- lemmas -/
import Derived.Test.YtmadligicacpkaaGreatAmB
import Derived.ProofKit
import Derived.OpenShut
import Derived.WalkKit
import Derived.SizedLaws
import Derived.Carry
set_option linter.all false
set_option linter.unusedSectionVars false
set_option linter.unusedVariables false
set_option linter.unusedSimpArgs false
noncomputable section
namespace Go.Am
variable [ó]
section
variable {ρ:Type} {ν:Nat→Value} {h:List Blk} {w:World}
def akm (acc:List Nat) (o:Oper):Nat:=o.after.toList.foldl (fun s e=>if Region.binds .any e then s ||| 2 ^ e.on ||| acc.getD e.on 0 else s) 0
def JW:∀(os:List Oper) (acc:List Nat),∃l,Λ os acc=acc++l∧∀(k:Nat) (o:Oper),os[k]?=some o→(acc++l).getD (acc.length+k) 0=akm ((acc++l).take (acc.length+k)) o
 |[],acc=>⟨[],by simp[Λ],by simp⟩
 |o::os,acc=>by
  obtain⟨l,h1,h2⟩:=JW os (acc++[akm acc o]);refine⟨akm acc o::l,?_,?_⟩
  ·simp only[Λ];show Λ os (acc++[akm acc o])=_;rw[h1]; simp
  ·intro k o' hk
   cases k with
   |zero =>
    simp only[eX,Option.some.injEq] at hk;subst hk;simp[List.getD]
   |succ k =>
    have:=h2 k o' (by simpa using hk);simp only[di,List.singleton_append,cN,dC] at this;rw[show acc.length+(k+1)=acc.length+1+k by omega];exact this
def akl {os:List Oper} {k:Nat} {o:Oper} (hk:os[k]?=some o):(Λ os []).getD k 0=akm ((Λ os []).take k) o:=by
 obtain⟨l,h1,h2⟩:=JW os [];rw[h1];simpa using h2 k o hk
def X0 {acc:List Nat} {i:Nat}:∀(es:List Edge) (s:Nat),(es.foldl (fun s e=>if Region.binds .any e then s ||| 2 ^ e.on ||| acc.getD e.on 0 else s) s).testBit i=true →
 s.testBit i=true∨∃e∈es,Region.binds .any e=true∧(i=e.on∨(acc.getD e.on 0).testBit i=true)
 |[],s,h=>.inl h
 |e::es,s,h=>by
  simp only[fR] at h;rcases X0 es _ h with h1|⟨e',hm,h1⟩
  ·split at h1
   ·rename_i hb;simp only[Nat.testBit_or,Bool.or_eq_true,Nat.testBit_two_pow,decide_eq_true_eq] at h1;rcases h1 with(h1|h1)|h1
    ·exact .inl h1
    ·exact .inr ⟨e,by simp,hb,.inl h1.symm⟩
    ·exact .inr ⟨e,by simp,hb,.inr h1⟩
   ·exact .inl h1
  ·exact .inr ⟨e',by simp[hm],h1⟩
def zo {E:Env ρ} {all:List Oper} {bef:List Nat}:∀{bs:List Oper} {j0:Nat},Aq E all bef bs j0=true→∀(k:Nat) (b:Oper),bs[k]?=some b→∀(i:Nat) (a:Oper),i<j0+k→all[i]?=some a→ami E all a b=false∨(bef.getD (j0+k) 0).testBit i=true
 |[],_,_,k,b,hk,_,_,_,_=>by simp at hk
 |x::bs,j0,h,k,b,hk,i,a,hi,ha=>by
  simp only[Aq,cM,dz,List.mem_range] at h
  cases k with
  |zero =>
   simp only[eX,Option.some.injEq] at hk;subst hk;have:=h.1 i (by omega);rw[ha] at this;simp only[Bool.or_eq_true,eF] at this;simpa using this
  |succ k =>
   have:=zo h.2 k b (by simpa using hk) i a (by omega) ha
   rwa [show j0+1+k=j0+(k+1) by omega] at this
def vX:∀{os:List Oper} {j:Nat},ab8 os j=true→∀(k:Nat) (o:Oper),os[k]?=some o→∀e∈o.after,Region.binds .any e=true→e.on<j+k
 |[],_,_,k,o,hk,_,_,_=>by simp at hk
 |x::os,j,h,k,o,hk,e,he,hb=>by
  simp only[ab8,cM,dz] at h
  cases k with
  |zero =>
   simp only[eX,Option.some.injEq] at hk;subst hk;have:=h.1 e (by simpa using he);simp only[hb,dR,Bool.false_or,decide_eq_true_eq] at this;omega
  |succ k =>
   have:=vX h.2 k o (by simpa using hk) e he hb;omega
def bef_lt {os:List Oper} (hb:ab8 os 0=true):∀(j i:Nat),((Λ os []).getD j 0).testBit i=true→i<j:=by
 intro j
 induction j using Nat.strongRecOn with
 |ind j ih =>
  intro i hi
  cases ho:os[j]? with
  |none =>
   obtain⟨l,h1,_⟩:=JW os []
   have hlen:∀(os:List Oper) (acc:List Nat),(Λ os acc).length=acc.length+os.length:=by
    intro os
    induction os with
    |nil=>intro acc; simp[Λ]
    |cons o os ih=>intro acc; simp only[Λ]; rw[ih]; simp; omega
   have:(Λ os [])[j]?=none:=by
    rw[List.getElem?_eq_none_iff] at ho ⊢;rw[hlen]; simpa using ho
   simp[List.getD,this] at hi
  |some o =>
   rw[akl ho] at hi;rcases X0 _ _ hi with hz|⟨ed,h1,h2,h3⟩
   ·simp at hz
   ·have hlt:=vX hb j o ho ed (by simpa using h1) h2;rw[dj] at hlt;rcases h3 with rfl|h3
    ·exact hlt
    ·have:((Λ os []).getD ed.on 0).testBit i=true:=by
      rw[←h3];congr 1;simp only[List.getD,d8];rw[if_pos (by omega)]
     exact Nat.lt_trans (ih ed.on hlt i this) hlt
def pD {clone:Nat→Bool}:∀{os:List Oper} {i nid:Nat} {x:Item},x∈nM clone os i nid→∃k,os[k]?=some x.2.2∧x.1=i+k∧nid≤x.2.1∧(Ď clone x.2.2.op=true→x.2.1<nid+iy clone os)
 |[],_,_,_,hx=>by cases hx
 |o::os,i,nid,x,hx=>by
  simp only[nM,cW] at hx;rcases hx with rfl|hx
  ·exact⟨0,by simp,rfl,cJ _,fun h=>by rw[mO]; simp only at h; rw[h]; simp⟩
  ·obtain⟨k,h1,h2,h3,h4⟩:=pD hx;refine⟨k+1,by simpa using h1,by omega,?_,fun h=>?_⟩
   ·cases hal:Ď clone o.op<;>rw[hal] at h3<;>simp at h3<;>omega
   ·have:=h4 h;rw[mO]
    cases hal:Ď clone o.op<;>rw[hal] at this<;>simp at this ⊢<;>omega
def GV {clone:Nat→Bool}:∀{os:List Oper} {i nid k:Nat} {o:Oper},os[k]?=some o→∃n,(i+k,n,o)∈nM clone os i nid
 |[],_,_,k,_,h=>by simp at h
 |x::os,i,nid,0,o,h=>by
  simp only[eX,Option.some.injEq] at h;subst h;exact⟨nid,by simp[nM]⟩
 |x::os,i,nid,k+1,o,h=>by
  obtain⟨n,hn⟩:=GV (clone:=clone) (i:=i+1) (nid:=bif Ď clone x.op then nid+1 else nid) (os:=os) (k:=k) (o:=o) (by simpa using h);exact⟨n,by simp only[nM,cW]; right; rwa [show i+(k+1)=i+1+k by omega]⟩
def Jw {clone:Nat→Bool}:∀{os:List Oper} {i nid:Nat},(nM clone os i nid).Pairwise fun x y=>x.1<y.1∧(Ď clone x.2.2.op=true→x.2.1<y.2.1)
 |[],_,_=>List.Pairwise.nil
 |o::os,i,nid=>by
  refine List.Pairwise.cons (fun y hy=>?_) Jw;obtain⟨k,_,h2,h3,_⟩:=pD hy;refine⟨by simp only; omega,fun hal=>?_⟩;simp only at hal;rw[hal] at h3;simp at h3 ⊢;omega
def agZ {l:List Item} {p p':Item→Bool} {b:Item} (hp:l.Pairwise fun x y=>x.1<y.1) (hb:b∈l) (hpb:p b=true) (hpp:∀x∈l,p' x=(p x&&x.1 != b.1)) :
 ∃as rest,l.filter p=as++b::rest∧l.filter p'=as++rest∧∀a∈as,a∈l∧p a=true∧a.1<b.1:=by
 obtain⟨l1,l2,rfl⟩:=List.append_of_mem hb;rw[List.pairwise_append] at hp;obtain⟨_,h2,h3⟩:=hp;have h1:∀x∈l1,x.1<b.1:=fun x hx=>h3 x hx b (by simp);have h4:∀x∈l2,b.1<x.1:=fun x hx=>(dE.1 h2).1 x hx;refine⟨l1.filter p,l2.filter p,by simp[hpb],?_,fun a ha=>?_⟩
 ·have e1:l1.filter p'=l1.filter p:=List.filter_congr fun x hx=>by
   rw[hpp x (by simp[hx])]
   have:(x.1 != b.1)=true:=by have:=h1 x hx; simp; omega
   rw[this]; simp
  have e2:l2.filter p'=l2.filter p:=List.filter_congr fun x hx=>by
   rw[hpp x (by simp[hx])]
   have:(x.1 != b.1)=true:=by have:=h4 x hx; simp; omega
   rw[this]; simp
  have e3:p' b=false:=by rw[hpp b (by simp)]; simp
  simp[e1,e2,e3]
 ·rw[eA] at ha;exact⟨by simp[ha.1],ha.2,h1 a ha.1⟩
def ae0 {α:Type} {R:α→α→Prop}:∀{l:List α},l.Pairwise R→∀x∈l,∀y∈l,x=y∨R x y∨R y x
 |[],_,_,hx,_,_=>by cases hx
 |z::l,h,x,hx,y,hy=>by
  rw[dE] at h;rcases cW.1 hx with hx|hx
  ·rcases cW.1 hy with hy|hy
   ·exact .inl (hx.trans hy.symm)
   ·rw[hx]; exact .inr (.inl (h.1 y hy))
  ·rcases cW.1 hy with hy|hy
   ·rw[hy]; exact .inr (.inr (h.1 x hx))
   ·exact ae0 h.2 x hx y hy
def al8 {E:Env ρ} {call:List Nat→Bool→Nat→List AV→List Blk→(AV→List Blk→Option ρ)→Option ρ} {L:Nat} (hE:lK E L call) {fid:Nat} {path:List Nat} {ops:Array Oper} (hp:path.length+1=L) (hg:rk ops.toList ops.toList=true)
 (hd:ajH E ops.toList=true) {base:Nat} {K:St→Option ρ} {r:ρ} {Q:Exit→Act→World→Prop} {m:Nat} (hmb:m≤base) :
 ∀(fuel:Nat) (listed:Array Bool) (acc:List (Nat×List Nat)) (S:St) (a:Act) (ν:Nat→Value) (w:World),listed.size=ops.size →
  (∀j i,listed.getD j false=true→((Λ ops.toList []).getD j 0).testBit i=true→listed.getD i false=true) →
  ((nM E.clone ops.toList 0 base).filter fun x=>!listed.getD x.1 true).length=fuel→Sim ν S a w →
  (∀x∈(nM E.clone ops.toList 0 base).filter fun x=>!listed.getD x.1 true,Ď E.clone x.2.2.op=true→x.2.1<S.h.length∧lkB S.h x.2.1=.dead)→m≤S.h.length →
  aeT E call fid path ops.toList (Λ ops.toList []) ((nM E.clone ops.toList 0 base).filter fun x=>!listed.getD x.1 true) acc S K=some r →
  (∀ν' S' a' w',Sim ν' S' a' w'→Ev m ν S.h w ν' S'.h w'→m≤S'.h.length→Dd m S.h S'.h→K S'=some r→Q .normal a' w') →
  wpAnyIn fen 0 E.P .any ops Q fuel listed a w:=by
 simp only[ajH,cM] at hd;obtain⟨hback,hdr⟩:=hd
 have getD_tf:∀{listed:Array Bool} {j:Nat},listed.size=ops.size→j<ops.size→listed.getD j true=listed.getD j false:=fun {listed j} hs hj=>by
  have:j<listed.size:=by omega
  simp[this]
 have hpw:=(Jw (clone:=E.clone) (os:=ops.toList) (i:=0) (nid:=base)).imp fun {x y} h=>h.1;intro fuel
 induction fuel with
 |zero =>
  intro listed acc S a ν w hsz hcl hlen H hdead hm e hQ;have hnil:=dh.1 hlen;refine⟨?_,?_⟩
  ·rw[List.eq_nil_iff_forall_not_mem];intro j hj;obtain⟨h0,o,ho,_⟩:=mem_ready.1 hj;obtain⟨n,hn⟩:=GV (clone:=E.clone) (i:=0) (nid:=base) (os:=ops.toList) (k:=j) (o:=o) (by simpa using ho);have:(0+j,n,o)∈(nM E.clone ops.toList 0 base).filter fun x=>!listed.getD x.1 true:=eA.2 ⟨hn,by simp only[dj]; rw[h0]; rfl⟩;rw[hnil] at this;cases this
  ·rw[hnil] at e;exact hQ ν S a w H (Ev.refl _ _ _ _) hm (Dd.refl _ _) e
 |succ fuel ih =>
  intro listed acc S a ν w hsz hcl hlen H hdead hm e hQ;refine⟨fun hr=>?_,fun j hj=>?_⟩
  ·-- the first of those that are left is ready
   exfalso
   cases hrem:(nM E.clone ops.toList 0 base).filter fun x=>!listed.getD x.1 true with
   |nil=>rw[hrem] at hlen; simp at hlen
   |cons x l =>
    have hx:x∈(nM E.clone ops.toList 0 base).filter fun x=>!listed.getD x.1 true:=by rw[hrem]; simp
    rw[eA] at hx;obtain⟨k,h1,h2,_⟩:=pD hx.1
    have hk:x.1=k:=by omega
    have hready:x.1∈Region.ready .any ops listed:=mem_ready.2 ⟨by simpa using hx.2,x.2.2,by rw[hk]; simpa using h1,fun ed hed hb=>by
     have hlt:=vX hback k x.2.2 h1 ed hed hb
     have hks:k<ops.size:=by
      have:=(cO.1 h1).1;simpa using this
     cases hl:listed.getD ed.on false with
     |true=>rfl
     |false =>
      exfalso;obtain⟨o',ho'⟩:∃o',ops.toList[ed.on]?=some o':=⟨_,cI (by simp; omega)⟩;obtain⟨n,hn⟩:=GV (clone:=E.clone) (i:=0) (nid:=base) ho'
      have hin:(0+ed.on,n,o')∈x::l:=by
       rw[←hrem];refine eA.2 ⟨hn,?_⟩;simp only[dj];rw[getD_tf hsz (by omega),hl];rfl
      have hpl:(x::l).Pairwise fun x y=>x.1<y.1:=by rw[←hrem]; exact hpw.filter _
      rcases cW.1 hin with h3|h3
      ·rw[←h3] at hk; simp at hk; omega
      ·have:=(dE.1 hpl).1 _ h3
       simp only at this; omega⟩
    rw[hr] at hready;cases hready
  ·obtain⟨h0,o,ho,hed⟩:=mem_ready.1 hj;have hjs:j<ops.size:=(dX.1 ho).1
   have hol:ops.toList[j]?=some o:=by simpa using ho
   obtain⟨n,hn⟩:=GV (clone:=E.clone) (i:=0) (nid:=base) hol;rw[dj] at hn
   have hpp:∀x∈nM E.clone ops.toList 0 base,(fun x:Item=>!(listed.setIfInBounds j true).getD x.1 true) x=((fun x:Item=>!listed.getD x.1 true) x&&x.1 != j):=fun x hx=>by
    by_cases hxj:x.1=j
    ·simp only[hxj]
     have:j<listed.size:=by omega
     simp[this]
    ·have h1:(listed.setIfInBounds j true).getD x.1 true=listed.getD x.1 true:=getD_set_ne true (Ne.symm hxj)
     have h2:(x.1 != j)=true:=by simpa using hxj
     simp only[h1,h2,gF]
   obtain⟨as,rest,f1,f2,f3⟩:=agZ (b:=(j,n,o)) hpw hn (by simp only[h0]; rfl) hpp
   have hbit:∀i,((Λ ops.toList []).getD j 0).testBit i=true→listed.getD i false=true:=fun i hi=>by
    rw[akl hol] at hi;rcases X0 _ _ hi with hz|⟨ed,h1,h2,h3⟩
    ·simp at hz
    ·have hl:=hed ed (by simpa using h1) h2;rcases h3 with rfl|h3
     ·exact hl
     ·refine hcl ed.on i hl ?_;have hlt:=vX hback j o hol ed (by simpa using h1) h2;rw[←h3];congr 1;simp only[List.getD,d8];rw[if_pos (by omega)]
   have hpairs:=Jw (clone:=E.clone) (os:=ops.toList) (i:=0) (nid:=base)
   have hmemj:((j,n,o):Item)∈(nM E.clone ops.toList 0 base).filter fun x=>!listed.getD x.1 true:=by rw[f1]; simp
   have hne:∀x∈(nM E.clone ops.toList 0 base).filter (fun x=>!listed.getD x.1 true),x≠(j,n,o)→Ď E.clone x.2.2.op=true→Ď E.clone o.op=true→x.2.1≠n:=fun x hx hxj h1 h2=>by
    have hsub:((nM E.clone ops.toList 0 base).filter fun x=>!listed.getD x.1 true).Pairwise fun x y=>x.1<y.1∧(Ď E.clone x.2.2.op=true→x.2.1<y.2.1):=hpairs.filter _;rcases ae0 hsub x hx _ hmemj with he|hr|hr
    ·exact absurd he hxj
    ·exact fB (hr.2 h1)
    ·exact(fB (hr.2 h2)).symm
   rw[f1] at e
   have e':=anc (b:=(j,n,o)) (h0:=S.h) (t0:=S.t) (K:=K) (r:=r) hE.pureEq as acc S.t S.h (fun x hx=>by
    obtain⟨g1,g2,g3⟩:=f3 x hx;obtain⟨k,h1,h2,_⟩:=pD g1
    have hk:x.1=k:=by omega
    have hkj:k<j:=by simp only at g3; omega
    have hnb:((Λ ops.toList []).getD j 0).testBit k=false:=by
     cases hb:((Λ ops.toList []).getD j 0).testBit k with
     |false=>rfl
     |true =>
      exfalso;have hl:=hbit k hb;simp only[eF] at g2;rw[getD_tf hsz (by omega),hk,hl] at g2;cases g2
    have hnb2:((Λ ops.toList []).getD k 0).testBit j=false:=by
     cases hb:((Λ ops.toList []).getD k 0).testBit j with
     |false=>rfl
     |true=>have:=bef_lt hback k j hb; omega
    have:=zo hdr j o hol k x.2.2 (by omega) h1;rw[dj,hnb] at this;rw[←hk] at h1 hnb hnb2
    exact ad5 (this.resolve_right (by simp)) h1 hol hnb hnb2)
    (fun _ _=>rfl)
    (fun hal=>(hdead _ hmemj hal).2)
    (fun x hx h1 h2=>hne x (by rw[f1]; simp[hx]) (fun he=>by
     have:=(f3 x hx).2.2;rw[he] at this
     simp at this) h1 h2)
    (fun x hx h1 y hy hmem=>VR.refs2 H.heap (Ŏ H y) _ hmem ((hdead x (by rw[f1]; simp[hx]) h1).2)) (fun _ _ _ _ _=>.inl rfl) e
   simp only[aeT,LA] at e'
   split at e'<;>try (cases e'; done)
   refine Nu hE.call hE.plain hE.clone hg hp ho H (fun hal=>hdead _ hmemj hal) e' fun ν' w' u v S' g1 g2 g3 g4 g5 g6 g7=>?_;have hrem:((nM E.clone ops.toList 0 base).filter fun x=>!(listed.setIfInBounds j true).getD x.1 true)=as++rest:=f2
   have hin:∀x∈as++rest,x∈(nM E.clone ops.toList 0 base).filter fun x=>!listed.getD x.1 true:=fun x hx=>by
    rw[f1]
    rcases cQ.1 hx with hx|hx<;>simp[hx]
   have hnj:∀x∈as++rest,x≠(j,n,o):=fun x hx he=>by
    rw[←hrem,eA] at hx;rw[he] at hx
    have hlt:j<listed.size:=by omega
    simp[hlt] at hx
   have hm':m≤S'.h.length:=du hm g4;refine ih (listed.setIfInBounds j true) ((j,DI E ops.toList o S)::acc) {t:=ě S'.t o.dst v,h:=S'.h} _ ν' w' (by simpa using hsz) (fun j' i h1 h2=>?_) ?_ ?_ (fun x hx hal=>?_) hm' ?_ fun ν'' S'' a'' w'' q1 q2 q3 q4 q5=>hQ ν'' S'' a'' w'' q1 ((g3.mono hm).trans q2 (cJ _)) q3 (fun i hi hdi=>q4 i hi ?_) q5
   ·by_cases hjj:j=j'
    ·subst hjj;exact getD_set_true (hbit i h2)
    ·rw[getD_set_ne false hjj] at h1;exact getD_set_true (hcl j' i h1 h2)
   ·rw[hrem];rw[f1] at hlen;simp only[cN,cX] at hlen ⊢;omega
   ·rw[g6];exact H.put g3 g2 o.dst g1
   ·rw[hrem] at hx;obtain⟨h1,h2⟩:=hdead x (hin x hx) hal;refine⟨by simp only; omega,g5 _ h1 ?_ h2⟩
    by_cases hob:Ď E.clone o.op=true
    ·exact .inl (hne x (hin x hx) (hnj x hx) hal hob)
    ·exact .inr (by simpa using hob)
   ·rw[hrem];exact g7
   ·refine g5 i (by omega) ?_ hdi
    by_cases hob:Ď E.clone o.op=true
    ·left;obtain⟨k,_,_,h3,_⟩:=pD hn;simp only at h3;show i≠n;omega
    ·exact .inr (by simpa using hob)
def DK {E:Env ρ} (hmix:E.P.follows .mixedOrders=true) (L:Nat) (call:List Nat→Bool→Nat→List AV→List Blk→(AV→List Blk→Option ρ)→Option ρ) (hE:lK E L call):lY E L call:=by
 intro fid rid path ops S a K r m ν w hp e H hm;unfold NE at e
 split at e<;>try (cases e; done)
 rename_i hg;simp only[dQ,Bool.or_eq_false_iff,fk] at hg;apply wpIn_region_any hmix;have hpre:=fun id=>XO S.h (iy E.clone ops.toList) id;have H1:Sim ν {t:=S.t,h:=S.h++List.replicate (iy E.clone ops.toList) .dead} a {w with drawn:=w.drawn+1}:=H.same hpre rfl rfl rfl rfl;have ev0:Ev m ν S.h w ν (S.h++List.replicate (iy E.clone ops.toList) .dead) {w with drawn:=w.drawn+1}:=Ev.same (w:=w) (w':={w with drawn:=w.drawn+1}) hpre rfl rfl rfl rfl m
 have hall:((nM E.clone ops.toList 0 S.h.length).filter fun x=>!(Array.replicate ops.size false).getD x.1 true)=nM E.clone ops.toList 0 S.h.length:=by
  rw[gp];intro x hx;obtain⟨k,h1,h2,_⟩:=pD hx
  have hlt:k<ops.size:=by
   have:=(cO.1 h1).1;simpa using this
  have:x.1=k:=by omega
  simp[this,hlt]
 have hlen:∀(os:List Oper) (i nid:Nat),(nM E.clone os i nid).length=os.length:=by
  intro os
  induction os with
  |nil=>intros; rfl
  |cons o os ih=>intro i nid; simp[nM,ih]
 refine al8 (fid:=fid) (base:=S.h.length) (K:=K .normal) (r:=r) hE hp hg.2 hg.1 hm ops.size _ [] {t:=S.t,h:=S.h++List.replicate (iy E.clone ops.toList) .dead} a ν _ (by simp) (fun j i h1 _=>?_) ?_ H1 (fun x hx hal=>?_) ?_ ?_ fun ν' S' a' w' g1 g2 g3 g4 g5=>⟨ν',S',g1,ev0.trans g2 (cJ _),g3,fun j hj hd=>g4 j hj (by simp only[hpre]; exact hd),g5⟩
 ·exfalso;rcases dv j ops.size with h|h
  ·simp[h] at h1
  ·simp[h] at h1
 ·rw[hall,hlen]; simp
 ·rw[hall] at hx;obtain⟨k,_,_,h3,h4⟩:=pD hx;have:=h4 hal;refine⟨by simp; omega,?_⟩;simp only[hpre];exact UF _ _ h3
 ·simp; omega
 ·rw[hall,←ZH];exact e
end
end Go.Am
end

noncomputable section
namespace Go.Am
variable [ó]
section
variable {ρ:Type} {ν ν':Nat→Value} {h h':List Blk} {w w':World} {P:Program}
structure Ü (ρ:Type) where
 path:List Nat
 fid:Nat
 bid:Nat
 L:È
 bF:Val (tyL L.cs)→Val (tyL L.vs)→(Val (tyL L.vs)→Option ρ)→((i:Nat)→Val (tyL (L.zs i))→Option ρ)→Option ρ
def eqL:List Nat→List Nat→Bool
 |[],[]=>true
 |a::l,b::m=>Nat.beq a b&&eqL l m
 |_,_=>false
def ajy:List (Ü ρ)→List Nat→Nat→Nat→Option (Ü ρ)
 |[],_,_,_=>none
 |x::l,path,fid,bid=>match Nat.beq x.bid bid&&(Nat.beq x.fid fid&&eqL x.path path) with
  |true=>some x
  |false=>ajy l path fid bid
def ou (tab:List (Ü ρ)) (path:List Nat) (fid bid m:Nat) (S:St) (K:Exit→St→Option ρ):Option ρ :=
 match ajy tab path fid bid with
 |some x=>acJ x.L x.bF m S K
 |none=>none
structure JEnt where
 path:List Nat
 fid:Nat
 rid:Nat
 pin:Nat
 tpl:Tpl
 vs:List Ty
def agY:List (Nat×Ø)→Nat→Option Ø
 |[],_=>none
 |x::l,f=>match Nat.beq x.1 f with
  |true=>some x.2
  |false=>agY l f
def JA:List (Nat×Nat)→Nat→Option Nat
 |[],_=>none
 |x::l,s=>match Nat.beq x.1 s with
  |true=>some x.2
  |false=>JA l s
def rr (P:Program) (f:Nat):Option Code :=
 match P.funcs[f]? with
 |some fn=>fn.body
 |none=>none
structure Ü.Ok (E:Env ρ) (x:Ü ρ):Prop where
 one:(((rr E.P x.fid).elim [] (î 0)).filter fun y=>Nat.beq y.1 x.bid).length=1
 law:∀p v kn kx,goC E (jX E (10-x.path.length / 2)) x.fid x.path x.L.pin x.bid (Lf (rr E.P x.fid) x.bid) (i7 x.L.head x.L.cs x.L.vs p v) (YW x.L kn kx)=x.bF p v (kn p) (fun i=>kx i p)
omit [ó] in
def ajA:∀{l m:List Nat},eqL l m=true→l=m
 |[],[],_=>rfl
 |a::l,b::m,h=>by
  simp only[eqL,cM] at h;rw[dc h.1,ajA h.2]
 |[],_::_,h=>by cases h
 |_::_,[],h=>by cases h
omit [ó] in
def U1:∀{tab:List (Ü ρ)} {path:List Nat} {fid bid:Nat} {x:Ü ρ},ajy tab path fid bid=some x→x∈tab∧x.path=path∧x.fid=fid∧x.bid=bid
 |[],_,_,_,_,h=>by cases h
 |y::tab,path,fid,bid,x,h=>by
  unfold ajy at h
  split at h
  ·rename_i hb;simp only[cM] at hb;cases h;exact⟨by simp,ajA hb.2.2,dc hb.2.1,dc hb.1⟩
  ·obtain⟨h1,h2⟩:=U1 h;exact⟨by simp[h1],h2⟩
omit [ó] in
def U0:∀{tab:List (Nat×Ø)} {f:Nat} {p:Ø},agY tab f=some p→(f,p)∈tab
 |[],_,_,h=>by cases h
 |y::tab,f,p,h=>by
  unfold agY at h
  split at h
  ·rename_i hb;cases h;rw[←dc hb]; simp
  ·exact f9 _ (U0 h)
omit [ó] in
def iE:∀(c:Code) (b0:Nat) {bid:Nat} {b:Code},(bid,b)∈î b0 c→∀y∈î bid b,y∈î b0 c
 |.seq c d,b0,bid,b,h,y,hy=>by
  simp only[î,cQ] at h ⊢;exact h.imp (fun h=>iE c b0 h y hy) (fun h=>iE d b0 h y hy)
 |.cond _ c d,b0,bid,b,h,y,hy=>by
  simp only[î,cQ] at h ⊢;exact h.imp (fun h=>iE c b0 h y hy) (fun h=>iE d b0 h y hy)
 |.block id c,b0,bid,b,h,y,hy=>by
  simp only[î] at h ⊢;exact iE c id h y hy
 |.loop c,b0,bid,b,h,y,hy=>by
  simp only[î,cW,Prod.mk.injEq] at h ⊢;rcases h with⟨rfl,rfl⟩|h
  ·exact .inr hy
  ·exact .inr (iE c b0 h y hy)
 |.skip,_,_,_,h,_,_=>by cases h
 |.region ..,_,_,_,h,_,_=>by cases h
 |.exit _,_,_,_,h,_,_=>by cases h
 |.ret,_,_,_,h,_,_=>by cases h
 |.label _,_,_,_,h,_,_=>by cases h
 |.goto _,_,_,_,h,_,_=>by cases h
 |.rangeFunc ..,_,_,_,h,_,_=>by cases h
 |.scope c,b0,bid,b,h,y,hy=>by
  simp only[î] at h ⊢;exact iE c b0 h y hy
 |.refuse _,_,_,_,h,_,_=>by cases h
omit [ó] in
def iq:∀(c:Code) (b0:Nat) {bid:Nat} {b:Code},(bid,b)∈î b0 c→SizeOf.sizeOf b<SizeOf.sizeOf c
 |.seq c d,b0,bid,b,h=>by
  simp only[î,cQ] at h;rcases h with h|h
  ·have:=iq c b0 h; simp; omega
  ·have:=iq d b0 h; simp; omega
 |.cond _ c d,b0,bid,b,h=>by
  simp only[î,cQ] at h;rcases h with h|h
  ·have:=iq c b0 h; simp; omega
  ·have:=iq d b0 h; simp; omega
 |.block id c,b0,bid,b,h=>by
  have:=iq c id h; simp; omega
 |.loop c,b0,bid,b,h=>by
  simp only[î,cW,Prod.mk.injEq] at h;rcases h with⟨rfl,rfl⟩|h
  ·simp
  ·have:=iq c b0 h; simp; omega
 |.skip,_,_,_,h=>by cases h
 |.region ..,_,_,_,h=>by cases h
 |.exit _,_,_,_,h=>by cases h
 |.ret,_,_,_,h=>by cases h
 |.label _,_,_,_,h=>by cases h
 |.goto _,_,_,_,h=>by cases h
 |.rangeFunc ..,_,_,_,h=>by cases h
 |.scope c,b0,bid,b,h=>by
  have:=iq c b0 h; simp; omega
 |.refuse _,_,_,_,h=>by cases h
def GR {E:Env ρ} {tab:List (Ü ρ)} (hE:E.loops=ou tab) (hok:∀x∈tab,x.Ok E) {n:Nat} (hn:n≤10) (hEnv:lK E (22-2*n) (jX E n)) (hD:lY E (22-2*n) (jX E n))
 {path:List Nat} {f:Nat} {fn:Func} {c:Code} (hp:path.length+2=22-2*n) (hf:E.P.funcs[f]?=some fn) (hc:fn.body=some c):∀x∈î 0 c,nY E path f x.1 x.2:=by
 have hbody:rr E.P f=some c:=by simp only[rr,hf,hc]
 have key:∀(N:Nat) (x:Nat×Code),SizeOf.sizeOf x.2<N→x∈î 0 c→nY E path f x.1 x.2:=by
  intro N
  induction N with
  |zero=>intro x h; omega
  |succ N ih =>
   intro⟨bid,b⟩ hN hx;have hin:∀y∈î bid b,nY E path f y.1 y.2:=fun y hy=>ih y (by have:=iq b bid (bid:=y.1) (b:=y.2) hy; simp only at hN; omega) (iE c 0 hx y hy)
   cases hfe:ajy tab path f bid with
   |none =>
    intro m S K r ν a w e;rw[hE] at e;simp only[ou,hfe] at e;cases e
   |some x =>
    obtain⟨h1,h2,h3,h4⟩:=U1 hfe;obtain⟨hone,hlaw⟩:=hok x h1;subst h3 h4;rw[hbody] at hone hlaw;simp only[Option.elim] at hone
    have hb:Lf (some c) x.bid=b:=by
     have hmem:(x.bid,b)∈(î 0 c).filter fun y=>Nat.beq y.1 x.bid:=List.mem_filter.2 ⟨hx,by simp⟩;obtain⟨z,hz⟩:=List.length_eq_one_iff.1 hone;rw[hz,List.mem_singleton] at hmem;unfold Lf;simp only
     cases hfd:(î 0 c).find? fun y=>y.1==x.bid with
     |none =>
      have:=eh.1 hfd _ hx;simp at this
     |some y =>
      have hy1:=gr hfd;have hy2:=fS hfd;have:y∈(î 0 c).filter fun y=>Nat.beq y.1 x.bid:=eA.2 ⟨hy1,by simpa using hy2⟩;rw[hz,cY] at this;rw[this,←hmem]
    rw[hb] at hlaw
    have hd:10-x.path.length / 2=n:=by rw[h2]; omega
    rw[hd,h2] at hlaw;rw[←h2] at hlaw ⊢;refine agN Eu hEnv hD (by rw[h2]; omega) (by rw[h2]; exact hin) x.L x.bF (fun m S K=>?_) (fun p v kn kx=>hlaw p v kn kx);rw[hE];simp only[ou,h2,hfe]
 exact fun x hx=>key _ x (Nat.lt_succ_self _) hx
def aer (E:Env ρ):Prop:=∀n,n≤10→lK E (22-2*n) (jX E n)→lY E (22-2*n) (jX E n)→∀(path:List Nat) (f:Nat) (fn:Func) (c:Code),path.length+2=22-2*n→E.P.funcs[f]?=some fn→fn.body=some c→∀x∈î 0 c,nY E path f x.1 x.2
structure akT where
 path:List Nat
 fid:Nat
 bid:Nat
 n:Nat
def alZ:List akT→List Nat→Nat→Nat→Option akT
 |[],_,_,_=>none
 |x::l,path,fid,bid=>match Nat.beq x.bid bid&&(Nat.beq x.fid fid&&eqL x.path path) with
  |true=>some x
  |false=>alZ l path fid bid
def aba (E0:Env ρ) (us:List akT) (path:List Nat) (fid bid m:Nat) (S:St) (K:Exit→St→Option ρ):Option ρ :=
 match alZ us path fid bid with
 |some u=>Vk (fun S K=>goC E0 (jX E0 (10-u.path.length / 2)) u.fid u.path m u.bid (Lf (rr E0.P u.fid) u.bid) S K) u.n S K
 |none=>E0.loops path fid bid m S K
omit [ó] in
def UZ:∀{tab:List akT} {path:List Nat} {fid bid:Nat} {x:akT},alZ tab path fid bid=some x→x∈tab∧x.path=path∧x.fid=fid∧x.bid=bid
 |[],_,_,_,_,h=>by cases h
 |y::tab,path,fid,bid,x,h=>by
  unfold alZ at h
  split at h
  ·rename_i hb;simp only[cM] at hb;cases h;exact⟨by simp,ajA hb.2.2,dc hb.2.1,dc hb.1⟩
  ·obtain⟨h1,h2⟩:=UZ h;exact⟨by simp[h1],h2⟩
def J4 {E:Env ρ} {call:List Nat→Bool→Nat→List AV→List Blk→(AV→List Blk→Option ρ)→Option ρ} {N:Nat} (hE:lK E N call) (hD:lY E N call) {fid bid m:Nat} {path:List Nat} (hpath:path.length+2=N) {b:Code}
 (hin:∀x∈î bid b,nY E path fid x.1 x.2) {K:Exit→St→Option ρ} {r:ρ} {h₀:List Blk} {ν₀:Nat→Value} {w₀:World}:∀(n:Nat) (S:St) (ν:Nat→Value) (a:Act) (w:World),Vk (fun S K=>goC E call fid path m bid b S K) n S K=some r→Sim ν S a w→m≤S.h.length→Ev m ν₀ h₀ w₀ ν S.h w→Dd m h₀ S.h →
  Code.roundsIn fen 0 E.P b (ahQ m ν₀ h₀ w₀ K r) n a w
 |0,S,ν,a,w,e,_,_,_,_=>by cases e
 |n+1,S,ν,a,w,e,H,hm,ev,dd=>by
  rw[roundsIn_succ];simp only[Vk] at e;refine wpIn_mono (lv hE hD hpath b bid S _ ν a w hin e H hm) fun x a₂ w₂ ha=>?_;obtain⟨ν₂,S₂,H2,ev2,hp2,dd2,hk⟩:=ha;have ev12:=ev.trans ev2 (cJ m);have dd12:=dd.trans dd2 (cJ m)
  cases x with
  |normal=>exact J4 hE hD hpath hin n S₂ ν₂ a₂ w₂ hk H2 hp2 ev12 dd12
  |exit id=>exact⟨ν₂,S₂,H2,ev12,hp2,dd12,hk⟩
  |ret=>exact⟨ν₂,S₂,H2,ev12,hp2,dd12,hk⟩
  |goto l=>exact⟨ν₂,S₂,H2,ev12,hp2,dd12,hk⟩
  |panic ch=>exact⟨ν₂,S₂,H2,ev12,hp2,dd12,hk⟩
  |outgrown=>exact⟨ν₂,S₂,H2,ev12,hp2,dd12,hk⟩
def aiT {c:Code} {bid:Nat} {b:Code} (hone:((î 0 c).filter fun y=>Nat.beq y.1 bid).length=1) (hx:(bid,b)∈î 0 c):Lf (some c) bid=b:=by
 have hmem:(bid,b)∈(î 0 c).filter fun y=>Nat.beq y.1 bid:=List.mem_filter.2 ⟨hx,by simp⟩;obtain⟨z,hz⟩:=List.length_eq_one_iff.1 hone;rw[hz,List.mem_singleton] at hmem;unfold Lf;simp only
 cases hfd:(î 0 c).find? fun y=>y.1==bid with
 |none =>
  have:=eh.1 hfd _ hx;simp at this
 |some y =>
  have hy1:=gr hfd;have hy2:=fS hfd;have:y∈(î 0 c).filter fun y=>Nat.beq y.1 bid:=eA.2 ⟨hy1,by simpa using hy2⟩;rw[hz,cY] at this;rw[this,←hmem]
def aiV {E E0:Env ρ} (hD0:Flat) (hlib0:MJ E0) (hP:E0.P=E.P) (hmix:E0.P.follows .mixedOrders=true) (hl0:aer E0) {us:List akT} (hE:E.loops=aba E0 us)
 (hone:∀u∈us,(((rr E.P u.fid).elim [] (î 0)).filter fun y=>Nat.beq y.1 u.bid).length=1) {n:Nat} (hn:n≤10)
 {path:List Nat} {f:Nat} {fn:Func} {c:Code} (hp:path.length+2=22-2*n) (hf:E.P.funcs[f]?=some fn) (hc:fn.body=some c):∀x∈î 0 c,nY E path f x.1 x.2:=by
 have hdraw:∀L call,lK E0 L call→lY E0 L call:=DK hmix;have hcall:=mw (.inl hD0) hlib0 hdraw (fun n hn hEnv=>hl0 n hn hEnv (hdraw _ _ hEnv)) n hn
 have hEnv:lK E0 (22-2*n) (jX E0 n):=⟨by
  cases n with
  |zero=>exact .inl fun _ _ _ _ _ _=>rfl
  |succ n=>exact .inr (pT n),hcall,hlib0.plain,hlib0.clone,hlib0.joins⟩
 have hin:=hl0 n hn hEnv (hdraw _ _ hEnv) path f fn c hp (hP▸hf) hc
 have hbody:rr E.P f=some c:=by simp only[rr,hf,hc]
 intro⟨bid,b⟩ hx m S K r ν a w e H hm;rw[hE] at e;unfold aba at e
 split at e
 ·rename_i u hu;obtain⟨h1,h2,h3,h4⟩:=UZ hu
  have hd:10-u.path.length / 2=n:=by rw[h2]; omega
  have h5:=hone u h1;rw[h3,h4,hbody] at h5;rw[hd,h2,h3,h4,hP,hbody,aiT h5 hx] at e;have:=J4 hEnv (hdraw _ _ hEnv) hp (fun y hy=>hin y (iE c 0 hx y hy)) u.n S ν a w e H hm (Ev.refl _ _ _ _) (Dd.refl _ _);rw[hP] at this;exact wpIn_loop_rounds u.n this
 ·have:=hin (bid,b) hx m S K r ν a w e H hm
  rwa [hP] at this
def VM (H:HR ν h w) {c:AV} {u:Value} (hu:VR1 ν h w c u):VRs w ó.G (Ā h c) u:=DZ H (fun b hb=>.inr hb) hu fun id b _ hl hb=>H.ghne id b hl hb
def aiq (H:HR ν h w) {id:Nat} {cs:List AV} (hl:lkB h id=.cells cs):(∀b,θ (ν id) b→¬ó.G b)∧∀c∈cs,∀u,VR1 ν h w c u→VRs w ó.G (Ā h c) u :=
 ⟨fun b hb=>H.ghne id b (by rw[hl]; rfl) hb,fun _ _ _ hu=>VM H hu⟩
def ć.up2:∀{as:List AV} {vs:List Value},ć (Go.Am.VR2 ν h w) as vs→ć (Go.Am.VR ν h w) as vs
 |[],[],_=>trivial
 |_::_,_::_,h=>⟨h.1.up,ć.up2 h.2⟩
 |[],_::_,h=>h.elim
 |_::_,[],h=>h.elim
def Vu (H:HR ν h w):∀(l:List Ty) {x:Val (tyL l)} {v:AV} {u:Value},VR ν h w v u→Ć l h v=some x→RR w ó.G l x u
 |[],_,_,_,_,e=>by cases e
 |[t],x,v,u,hv,e=>Yu H hv (fun _ _ _ hu=>VM H hu) (fun _ _ _ hl=>aiq H hl) (fun id _ _ hl b hb=>H.ghne id b hl hb) e
 |t::u'::l,x,v,u,hv,e=>by
  cases v with
  |tup as =>
   obtain⟨us,rfl,h2⟩:=hv;exact⟨us,rfl,Ro H (u'::l) t x as us.toList h2.up2 (fun _ _ _ _ _ hu=>VM H hu) (fun _ _ _ _ _ hl=>aiq H hl) (fun _ _ id _ _ hl b hb=>H.ghne id b hl hb) e⟩
  |_=>cases e
def AT.mono {G G':Nat→Prop} (hm:∀b,G' b→G b):∀{l:List Ty} {t:Ty} {x:Val (tys t l)} {vs:List Value},AT w G l t x vs→AT w G' l t x vs
 |[],t,x,vs,⟨v,h1,h2⟩=>⟨v,h1,h2.mono hm⟩
 |u::l,t,x,vs,⟨v,vs',h1,h2,h3⟩=>⟨v,vs',h1,h2.mono hm,AT.mono hm h3⟩
def AL.mono {G G':Nat→Prop} (hm:∀b,G' b→G b):∀{l:List Ty} {x:Val (tyL l)} {vs:List Value},AL w G l x vs→AL w G' l x vs
 |[],_,_,h=>h
 |_::_,_,_,h=>AT.mono hm h
def AL.VR:∀{l:List Ty} {x:Val (tyL l)} {vs:List Value},AL w (Av ν h) l x vs→ć (VR ν h w) (Ă l x) vs
 |[],_,_,h=>by cases h; trivial
 |_::_,_,_,h=>AT.VR h
end
omit [ó] in
def aeY {f:Nat} {p:Ø} (E:Env (Val (tyL p.rs))) (hlib:∀[ó],MJ E) (hmix:E.P.follows .mixedOrders=true) (hl:∀[ó],Flat→aer E) (law:Vx p E f):Ï E.P f p:=by
 intro G x y hF w vals hG hAL
 letI:ó:=⟨G,[],none⟩
 have hL:=law x;rw[hF] at hL;unfold ĉ at hL;have hdraw:∀L call,lK E L call→lY E L call:=DK hmix;have hloops:=hl ⟨rfl,rfl⟩;have hcall:=mw (.inl ⟨rfl,rfl⟩) hlib hdraw (fun n hn hE=>hloops n hn hE (hdraw _ _ hE)) 10 (Nat.le_refl _);have hEnv:lK E (22-2*10) (jX E 10):=⟨.inr (pT 9),hcall,hlib.plain,hlib.clone,hlib.joins⟩;have H:HR (fun _=>undef) [] w:=⟨fun _=>trivial,fun _ _ _ h=>(by cases h),hG,fun _ _ h=>(by cases h)⟩;have hav:∀b,Av (fun _=>undef) [] b→G b:=fun b hb=>hb.elim (fun⟨_,h,_⟩=>by cases h) id;have hargs:ć (VR (fun _=>undef) [] w) (Ă p.ts x) vals:=AL.VR (hAL.mono hav);obtain⟨h1,h2⟩:=QT hEnv (hdraw _ _ hEnv) (path:=[]) rfl ⟨rfl,rfl⟩ (fun fn c hf hc=>hloops 10 (Nat.le_refl _) hEnv (hdraw _ _ hEnv) [] f fn c rfl hf hc) hL H hargs;refine⟨h1,h2.mono fun e w' hw=>?_⟩;obtain⟨ν',h',v,u,rfl,g1,g2,g3,g4,g5,g6⟩:=hw;refine⟨u,rfl,Vu g2 _ g1 g6,fun b hb=>(g3.keep b hb fun⟨_,h,_⟩=>by cases h).1,g3.size,g3.os,g3.tape,g3.output⟩
omit [ó] in
def Ç {f:Nat} {p:Ø} (E:Env (Val (tyL p.rs))) (hlib:∀[ó],MJ E) (hmix:E.P.follows .mixedOrders=true) {tab:List (Ü (Val (tyL p.rs)))} (hE:E.loops=ou tab) (hok:∀x∈tab,x.Ok E) (law:Vx p E f):Ï E.P f p :=
 aeY E hlib hmix (fun _ n hn hEnv hD path f fn c hp hf hc=>GR hE hok hn hEnv hD hp hf hc) law
omit [ó] in
def Zd {f:Nat} {p:Ø} (E E0:Env (Val (tyL p.rs))) (hlib:∀[ó],MJ E) (hlib0:∀[ó],MJ E0) (hP:E0.P=E.P) (hmix:E.P.follows .mixedOrders=true) {tab:List (Ü (Val (tyL p.rs)))} (h0:E0.loops=ou tab) (hok:∀x∈tab,x.Ok E0) {us:List akT} (hE:E.loops=aba E0 us)
 (hone:∀u∈us,(((rr E.P u.fid).elim [] (î 0)).filter fun y=>Nat.beq y.1 u.bid).length=1) (law:Vx p E f):Ï E.P f p :=
 aeY E hlib hmix (fun hD0 n hn _ _ path f fn c hp hf hc=>aiV hD0 hlib0 hP (hP▸hmix) (fun n hn hEnv hD path f fn c hp hf hc=>GR h0 hok hn hEnv hD hp hf hc) hE hone hn hp hf hc) law
omit [ó] in
def Å {p:Ø} {E:Env (Val (tyL p.rs))} {f:Nat} (h:∀x:Val (tyL p.ts),ĉ E f (Ă p.ts x) (fun h v=>Ã (Ć p.rs h v) some)=p.F x):Vx p E f:=fun x=>by
 rw[←h x];congr 1;funext h v;unfold Ã
 cases Ć p.rs h v<;>rfl
omit [ó] in
def Æ {α:Type} {Q:α→Prop}:∀x∈([]:List α),Q x:=fun _ h=>by cases h
omit [ó] in
def Á {α:Type} {Q:α→Prop} {a:α} {l:List α} (h:Q a) (hl:∀x∈l,Q x):∀x∈a::l,Q x:=fun x hx=>by
 rcases cW.1 hx with rfl|hx
 ·exact h
 ·exact hl x hx
end Go.Am
end

noncomputable section
namespace Go.Am
open Go.ChangeShapes Go.WideShapes Go.ChangeAt Go.RowKit
abbrev anP:Nat→Prop:=fun _=>False
def Rng:(t:Ty)→Val t→Prop
 |.int .i64,n=>-9223372036854775808≤(n:Int)∧(n:Int)≤9223372036854775807
 |.pair a b,x=>Rng a (x:Val a×Val b).1∧Rng b (x:Val a×Val b).2
 |.slice t,l=>∀x∈(l:List (Val t)),Rng t x
 |_,_=>True
mutual
def akQ (P:Program):Nat→Ty→TypeId→Bool
 |0,_,_=>false
 |n+1,τ,t =>
  match P.underlying t with
  |some .bool=>match τ with
   |.bool=>true
   |_=>false
  |some (.int k)=>match τ with
   |.int k'=>k==k'
   |_=>false
  |some .string=>match τ with
   |.str=>true
   |_=>false
  |some (.slice e)=>match τ with
   |.slice u=>akQ P n u e&&(Nat.beq (P.cellsOf e) u.size&&Nat.ble 1 u.size)
   |_=>false
  |some (.struct fs)=>Nat.beq (P.cellsOf t) τ.size&&(τ.isAgg&&fieldsAre P n τ 0 fs.toList)
  |_=>false
def fieldsAre (P:Program):Nat→Ty→Nat→List Field→Bool
 |0,_,_,_=>false
 |n+1,τ,off,[f]=>Nat.beq f.offset off&&(Nat.beq (P.cellsOf f.type) τ.size&&akQ P n τ f.type)
 |n+1,.pair a b,off,f::g::fs=>Nat.beq f.offset off&&(Nat.beq (P.cellsOf f.type) a.size&&(akQ P n a f.type&&fieldsAre P n b (off+a.size) (g::fs)))
 |_,_,_,_=>false
end
def VX {α β:Type} {f:α→Option β}:∀{l:List α} {ys:List β},l.mapM f=some ys→∀a∈l,∃y,f a=some y
 |[],ys,_,a,ha=>by cases ha
 |b::l,ys,h,a,ha=>by
  rw[List.mapM_cons] at h
  cases hb:f b with
  |none=>rw[hb] at h; cases h
  |some y =>
   rw[hb] at h
   cases hl:l.mapM f with
   |none=>simp[hl] at h
   |some zs =>
    rcases cW.1 ha with rfl|ha
    ·exact⟨y,hb⟩
    ·exact VX hl a ha
def Q2 {α:Type} {Q:Nat→α→Prop}:∀n:Nat,(∀i,i<n→∃x,Q i x)→∃xs:List α,xs.length=n∧∀i x,xs[i]?=some x→Q i x
 |0,_=>⟨[],rfl,fun i x h=>by simp at h⟩
 |n+1,h=>by
  obtain⟨xs,h1,h2⟩:=Q2 n fun i hi=>h i (by omega);obtain⟨x,hx⟩:=h n (by omega);refine⟨xs++[x],by simp[h1],fun i y hy=>?_⟩;rcases dv i n with hi|hi
  ·rw[gu (by omega)] at hy; exact h2 i y hy
  ·rw[gg (by omega),h1] at hy
   have:i=n:=by
    rcases dv 0 (i-n) with h0|h0
    ·rw[fH (by simp; omega)] at hy; cases hy
    ·omega
   subst this;simp at hy;rw[←hy]; exact hx
section
variable {H:Type} {enc:TypeId×Value→H} {P:Program} {w:World} {sp:Nat→Bool} {held:Bool}
def amn {base:Nat} {a:Addr} {n:Nat} {cs:List Value} (h:w.cells? base a n=some cs) (hs:a.spot=none):Ō w a.block a.off cs:=by
 obtain⟨_,hl,hc⟩:=World.cells?_some h;intro j v hj;have hjl:j<cs.length:=(cO.1 hj).1;have:=hc j (by omega);rw[hj] at this;rw[←this];congr 1;obtain⟨b,o,s⟩:=a;simp only at hs;subst hs;exact(add_plain b o j).symm
def af4 (enc:TypeId×Value→H) (P:Program) (w:World) (sp:Nat→Bool) (held:Bool) (n:Nat):Prop :=
 ∀(τ:Ty) (t:TypeId) (fuel:Nat) (cs:List Value) (d:DataW H) (ps:List MemPlace),akQ P n τ t=true→DataW.trod enc P w 0 sp held fuel t cs=some (d,ps)→∃x:Val τ,CR w anP τ x cs∧Rng τ x
def Nn (enc:TypeId×Value→H) (P:Program) (w:World) (sp:Nat→Bool) (held:Bool) (n:Nat):Prop :=
 ∀(τ:Ty) (off:Nat) (fs:List Field) (fuel:Nat) (cs:List Value),fieldsAre P n τ off fs=true→(∀f∈fs,∃y,DataW.trod enc P w 0 sp held fuel f.type ((cs.drop f.offset).take (P.cellsOf f.type))=some y)→cs.length=off+τ.size→∃x:Val τ,CR w anP τ x (cs.drop off)∧Rng τ x
set_option maxHeartbeats 1000000 in
def ahZ {n:Nat} (A:af4 enc P w sp held n) (B:Nn enc P w sp held n):af4 enc P w sp held (n+1):=by
 intro τ t fuel cs d ps h e
 cases fuel with
 |zero=>simp[DataW.trod] at e
 |succ fuel =>
  unfold akQ at h;unfold DataW.trod at e
  split at h
  ·-- bool
   rename_i hu;rw[hu] at e
   cases τ<;>try (cases h; done)
   rcases cs with _|⟨c,_|⟨c2,cs⟩⟩<;>try first|(cases e; done)|(simp at e; done)
   cases c<;>try (cases e; done)
   rename_i b;exact⟨(show Val .bool from b),rfl,trivial⟩
  ·-- int
   rename_i k hu;rw[hu] at e
   cases τ<;>try (cases h; done)
   rename_i k'
   have hk:k=k':=by simpa using h
   subst hk
   rcases cs with _|⟨c,_|⟨c2,cs⟩⟩<;>try first|(cases e; done)|(simp at e; done)
   cases c<;>try (cases e; done)
   rename_i k2 m;simp only at e
   split at e<;>try (cases e; done)
   rename_i hc;obtain⟨rfl,hwf⟩:=hc;refine⟨(show Val (.int k2) from m),rfl,?_⟩
   cases k2<;>try trivial
   simp only[Lit.wf,cM,decide_eq_true_eq] at hwf;exact hwf
  ·-- string
   rename_i hu;rw[hu] at e
   cases τ<;>try (cases h; done)
   rcases cs with _|⟨c,_|⟨c2,cs⟩⟩<;>try first|(cases e; done)|(simp at e; done)
   cases c<;>try (cases e; done)
   rename_i s;exact⟨(show Val .str from s),rfl,trivial⟩
  ·-- slice
   rename_i el hu;rw[hu] at e
   cases τ<;>try (cases h; done)
   rename_i u;simp only[cM] at h;obtain⟨h1,h2,h3⟩:=h;have hsz:P.cellsOf el=u.size:=dc h2;have hpos:1≤u.size:=fG h3
   rcases cs with _|⟨c,_|⟨c2,cs⟩⟩<;>try first|(cases e; done)|(simp at e; done)
   cases c<;>try (cases e; done)
   rename_i base len cap
   cases base with
   |none =>
    cases len<;>cases cap<;>try (cases e; done)
    exact⟨(show Val (.slice u) from[]),⟨none,0,rfl,cJ _,.inl rfl⟩,fun x hx=>by cases hx⟩
   |some a =>
    simp only at e
    split at e<;>try (cases e; done)
    rename_i hb
    cases hm:(List.range len).mapM (fun i=>(w.cells? 0 (a.add (i*P.cellsOf el)) (P.cellsOf el)).bind (DataW.trod enc P w 0 sp held fuel el)) with
    |none=>rw[hm] at e; cases e
    |some anZ =>
     clear e
     have each:∀i,i<len→∃x:Val u,∃us,w.cells? 0 (a.add (i*P.cellsOf el)) (P.cellsOf el)=some us∧CR w anP u x us∧Rng u x:=by
      intro i hi;obtain⟨y,hy⟩:=VX hm i (List.mem_range.2 hi)
      cases hc:w.cells? 0 (a.add (i*P.cellsOf el)) (P.cellsOf el) with
      |none=>rw[hc] at hy; cases hy
      |some us =>
       rw[hc] at hy;obtain⟨d',ps'⟩:=y;obtain⟨x,g1,g2⟩:=A u el fuel us d' ps' h1 hy;exact⟨x,us,rfl,g1,g2⟩
     obtain⟨xs,hl,hx⟩:=Q2 len each;refine⟨(show Val (.slice u) from xs),⟨some a,cap,by rw[hl],by rw[hl]; exact hb.2.1,?_⟩,fun x hxm=>?_⟩
     ·rcases fi len with h0|h0
      ·left; exact dh.1 (by rw[hl,h0])
      ·right;obtain⟨x0,us0,c0,_,_⟩:=each 0 h0;have hblk:=World.cells?_block c0 (by omega);obtain⟨_,l0,g0⟩:=World.cells?_some c0
       have hspot:a.spot=none:=by
        have h5:=g0 0 (by omega);obtain⟨v0,hv0⟩:∃v0,us0[0]?=some v0:=⟨us0[0],cI (by omega)⟩;rw[hv0] at h5;simpa[Addr.add] using World.cell?_spot h5
       obtain⟨b,o,s⟩:=a;simp only at hspot;subst hspot;refine⟨b,o,rfl,id,by simpa[Addr.add] using hblk,fun i x hxi=>?_⟩;obtain⟨us,q1,q2,_⟩:=hx i x hxi;refine⟨us,q2,?_⟩;rw[add_plain] at q1;have:=amn q1 rfl;rw[hsz] at this;exact this
     ·obtain⟨i,hi,rfl⟩:=df.1 hxm;obtain⟨us,_,_,g⟩:=hx i _ (cI hi);exact g
  ·-- struct
   rename_i fs hu;rw[hu] at e;simp only[cM] at h;obtain⟨h1,_,h2⟩:=h;have hsz:P.cellsOf t=τ.size:=dc h1;simp only at e
   split at e<;>try (cases e; done)
   rename_i hlen
   cases hm:fs.toList.mapM (fun f=>DataW.trod enc P w 0 sp held fuel f.type ((cs.drop f.offset).take (P.cellsOf f.type))) with
   |none=>rw[hm] at e; cases e
   |some xs =>
    have:=B τ 0 fs.toList fuel cs h2 (VX hm) (by omega);simpa using this
  ·cases h
def adS {n:Nat} (A:af4 enc P w sp held n) (B:Nn enc P w sp held n):Nn enc P w sp held (n+1):=by
 intro τ off fs fuel cs h hf hlen;rcases fs with _|⟨f,_|⟨g,fs⟩⟩
 ·simp[fieldsAre] at h
 ·unfold fieldsAre at h;simp only[Bool.and_eq_true] at h;obtain⟨h1,h2,h3⟩:=h;obtain⟨⟨d,ps⟩,hy⟩:=hf f (by simp);rw[Nat.eq_of_beq_eq_true h1,Nat.eq_of_beq_eq_true h2,List.take_of_length_le (by rw[List.length_drop]; omega)] at hy;exact A τ f.type fuel _ d ps h3 hy
 ·cases τ<;>try (simp[fieldsAre] at h; done)
  rename_i a b;unfold fieldsAre at h;simp only[Bool.and_eq_true] at h;obtain⟨h1,h2,h3,h4⟩:=h;obtain⟨⟨d,ps⟩,hy⟩:=hf f (by simp);rw[Nat.eq_of_beq_eq_true h1,Nat.eq_of_beq_eq_true h2] at hy;obtain⟨x,q1,q2⟩:=A a f.type fuel _ d ps h3 hy;simp only[Ty.size] at hlen;obtain⟨y,q3,q4⟩:=B b (off+a.size) (g::fs) fuel cs h4 (fun f' hf'=>hf f' (by simp[hf'])) (by omega);refine⟨(show Val (.pair a b) from(x,y)),⟨_,_,?_,q1,q3⟩,q2,q4⟩;rw[←List.drop_drop,List.take_append_drop]
def w9:∀n,af4 enc P w sp held n∧Nn enc P w sp held n
 |0=>⟨fun τ t fuel cs d ps h _=>by simp[akQ] at h,fun τ off fs fuel cs h _ _=>by simp[fieldsAre] at h⟩
 |n+1=>⟨ahZ (w9 n).1 (w9 n).2,adS (w9 n).1 (w9 n).2⟩
def aeJ {n:Nat} {τ:Ty} {t:TypeId} {v:Value} {d:DataW H} {ps:List MemPlace} {r:Reach} {base:Nat} (ht:akQ P n τ t=true) (h:DataW.Trod enc P w 0 sp held t v d ps) (hv:Value.okWide P w r base t v):∃x:Val τ,kI w anP τ x v∧Rng τ x:=by
 obtain⟨fuel,hf⟩:=h;obtain⟨x,h1,h2⟩:=(w9 n).1 τ t fuel _ d ps ht hf;refine⟨x,⟨_,h1,?_⟩,h2⟩
 cases n with
 |zero=>simp[akQ] at ht
 |succ n =>
  unfold akQ at ht;unfold Value.okWide at hv
  split at ht
  ·rename_i hu;rw[hu] at hv
   cases τ<;>try (cases ht; done)
   simp only[Cell.okWide,hu] at hv
   cases v<;>simp_all[Cell.ok,Value.cells,wZ,Ty.isAgg]
  ·rename_i k hu;rw[hu] at hv
   cases τ<;>try (cases ht; done)
   simp only[Cell.okWide,hu] at hv
   cases v<;>simp_all[Cell.ok,Value.cells,wZ,Ty.isAgg]
  ·rename_i hu;rw[hu] at hv
   cases τ<;>try (cases ht; done)
   simp only[Cell.okWide,hu] at hv
   cases v<;>simp_all[Cell.ok,Value.cells,wZ,Ty.isAgg]
  ·rename_i el hu;rw[hu] at hv
   cases τ<;>try (cases ht; done)
   simp only[Cell.okWide,hu] at hv
   cases v<;>simp_all[Cell.ok,Value.cells,wZ,Ty.isAgg]
  ·rename_i fs hu;rw[hu] at hv;obtain⟨cs,rfl,_,_⟩:=hv;simp only[cM] at ht;have hagg:τ.isAgg=true:=ht.2.1;simp[wZ,hagg,Value.cells]
  ·cases ht
def AR (P:Program):List Ty→List TypeId→Bool
 |[],[]=>true
 |τ::l,t::ts=>akQ P 40 τ t&&AR P l ts
 |_,_=>false
def aeK {r:Reach} {base:Nat}:∀(l:List Ty) (τ:Ty) (t:TypeId) (ts:List TypeId) (v:Value) (vs:List Value) (ds:List (DataW H)) (ps:List MemPlace),AR P (τ::l) (t::ts)=true→DataW.TrodAll enc P w 0 sp held (t::ts) (v::vs) ds ps →
 (∀(j:Nat) t' v',(t::ts)[j]?=some t'→(v::vs)[j]?=some v'→Value.okWide P w r base t' v')→∃x:Val (tys τ l),AT w anP l τ x (v::vs)∧Rng (tys τ l) x
 |l,τ,t,ts,v,vs,[],ps,_,h,_=>by cases h
 |[],τ,t,ts,v,vs,d::ds,ps,hs,h,hv=>by
  obtain⟨p,q,h1,h2,_⟩:=h;simp only[AR,cM] at hs
  have:ts=[]:=by cases ts with|nil=>rfl|cons=>simp[AR] at hs
  subst this
  have hvs:vs=[]:=by cases vs with|nil=>rfl|cons=>exact h2.elim
  subst hvs;obtain⟨x,g1,g2⟩:=aeJ hs.1 h1 (hv 0 t v rfl rfl);exact⟨x,⟨v,rfl,g1⟩,g2⟩
 |u::l,τ,t,ts,v,vs,d::ds,ps,hs,h,hv=>by
  obtain⟨p,q,h1,h2,_⟩:=h;simp only[AR,cM] at hs;obtain⟨x,g1,g2⟩:=aeJ hs.1 h1 (hv 0 t v rfl rfl);rcases ts with _|⟨t2,ts⟩
  ·simp[AR] at hs
  ·rcases vs with _|⟨v2,vs⟩
   ·exact h2.elim
   ·obtain⟨y,g3,g4⟩:=aeK l u t2 ts v2 vs ds q hs.2 h2 fun j t' v' a b=>hv (j+1) t' v' (by simpa using a) (by simpa using b);exact⟨(show Val (.pair τ (tys u l)) from(x,y)),⟨v,v2::vs,rfl,g1,g3⟩,g2,g4⟩
def ak0 {r:Reach} {base:Nat} {l:List Ty} {ts:List TypeId} {vs:List Value} {ds:List (DataW H)} {ps:List MemPlace} (hs:AR P l ts=true) (h:DataW.TrodAll enc P w 0 sp held ts vs ds ps)
 (hv:∀(j:Nat) t' v',ts[j]?=some t'→vs[j]?=some v'→Value.okWide P w r base t' v'):∃x:Val (tyL l),AL w anP l x vs∧Rng (tyL l) x:=by
 rcases l with _|⟨τ,l⟩
 ·have:ts=[]:=by cases ts with|nil=>rfl|cons=>simp[AR] at hs
  subst this
  have hvs:vs=[]:=by cases vs with|nil=>rfl|cons=>cases ds<;>exact h.elim
  exact⟨(show Val .unit from()),hvs,trivial⟩
 ·rcases ts with _|⟨t,ts⟩
  ·simp[AR] at hs
  ·rcases vs with _|⟨v,vs⟩
   ·cases ds<;>exact h.elim
   ·exact aeK l τ t ts v vs ds ps hs h hv
def DW (hl:laidOutB P=true) {W W':World} (hb:Below W.heap.size W W'):∀{ts:List TypeId} {vs:List Value} {ds:List (DataW H)} {ps:List MemPlace},(ts.all fun t=>P.readableRec t&&decide (t<P.types.size))=true→DataW.TrodAll enc P W 0 (fun _=>true) true ts vs ds ps→(∀x∈ps,x.block<W.heap.size) →
 DataW.TrodAll enc P W' 0 (fun b=>decide (b<W.heap.size)) true ts vs ds ps
 |[],[],[],ps,_,h,_=>h
 |t::ts,v::vs,d::ds,ps,hr,h,hlt=>by
  obtain⟨p,q,h1,h2,rfl⟩:=h;simp only[fI,cM,decide_eq_true_eq] at hr;exact⟨p,q,Below.trod hl hr.1.1 hr.1.2 h1 hb (fun x hx=>hlt x (dY _ hx)),DW hl hb (by simpa using hr.2) h2 (fun x hx=>hlt x (dM _ hx)),rfl⟩
 |[],[],_::_,_,_,h,_=>h.elim
 |[],_::_,_,_,_,h,_=>by cases ‹List (DataW H)›<;>exact h.elim
 |_::_,[],_,_,_,h,_=>by cases ‹List (DataW H)›<;>exact h.elim
 |_::_,_::_,[],_,_,h,_=>h.elim
def Nq {W:World}:∀{ts:List TypeId} {vs:List Value} {ds:List (DataW H)} {ps:List MemPlace},DataW.TrodAll enc P W 0 sp held ts vs ds ps→ds.length=ts.length
 |[],[],[],_,_=>rfl
 |_::_,_::_,_::_,_,h=>by obtain⟨p,q,_,h2,_⟩:=h; simp[Nq h2]
 |[],[],_::_,_,h=>h.elim
 |[],_::_,ds,_,h=>by cases ds<;>exact h.elim
 |_::_,[],ds,_,h=>by cases ds<;>exact h.elim
 |_::_,_::_,[],_,h=>h.elim
def law_lifted {C:Checked} {os:Os} {f:FuncId} {fn:Func} {s:ChangeSpec} {conds:List PathCond} {p:Ø} {tb:TypeId} (own:ownKnob C.prog.godebug=none) (started:os.Started) (noInit:C.prog.inits.idxOf? f=none) (hfn:C.prog.funcs[f]?=some fn)
 (witness:∃(w:World) (tape:Tape) (i:Input),w.os=os∧(w.forCall tape i).Shaped C.prog∧i.vars=[]∧Input.okWide C.prog (w.forCall tape i) .any w.heap.size f i ∧
  s.pre6 enc C.prog fn conds false (w.forCall tape i).memory i.args∧({}:Assume).holds C.prog (lone (Frame.enter C.prog f i.args .normal) [] (w.forCall tape i)))
 (hp:Ï C.prog f p) (hrs:p.rs=[.bool]) (law:∀x:Val (tyL p.ts),Rng (tyL p.ts) x→p.F x=some (hrs▸(show Val (tyL [.bool]) from true))) (htys:AR C.prog p.ts fn.params.toList=true) (hsv:s.vars=[])
 (hs:∀ds:List (DataW H),ds.length=fn.params.toList.length→s.fn H ds={results:=[.lit (.bool true)],args:=ds}) (hl:laidOutB C.prog=true) (hrd:(fn.params.toList.all fun t=>C.prog.readableRec t&&decide (t<C.prog.types.size))=true)
 (hres:fn.resultTypes=#[tb]) (hbool:C.prog.underlying tb=some .bool) :
 ReturnsInHanded {} C os f .any (s.pre6 enc C.prog fn conds false) (s.post enc C.prog fn false true false false):=by
 refine returnsInHanded_of_change own started noInit hfn witness ?_;intro W base args ds gs before hval hW _ _;have hW':=hW;obtain⟨pa,q,hA,hV,rfl,_,_⟩:=hW
 have hgs:gs=[]∧q=[]:=by
  rw[hsv] at hV
  cases gs with
  |nil=>exact⟨rfl,hV⟩
  |cons=>exact hV.elim
 obtain⟨rfl,rfl⟩:=hgs;obtain⟨x,h1,h2⟩:=ak0 htys hA (r:=.any) (base:=base) fun j t v ht hv=>hval j t v (by simpa using ht) (by simpa using hv);simp only[dH] at hW'
 have hlt:∀x∈pa,x.block<W.heap.size:=fun x hx=>by simpa using hW'.lt x hx
 refine(callsIn_wide (n:=0)).1 ((hp anP x _ (law x h2) W args.toList (fun _ h=>h.elim) h1).2.mono fun e W' hw=>?_);obtain⟨u,rfl,k1,k2,k3,k4,k5,k6⟩:=hw
 have hu:u=.bool true:=by
  obtain⟨ts,rs,F⟩:=p;dsimp only at hrs k1;subst hrs;obtain⟨us,c1,rfl⟩:=k1;have:us=[.bool true]:=c1;rw[this]; rfl
 subst hu;have hb:Below W.heap.size W W':=⟨k4,k5,k6,k3,k2⟩
 have hds:s.fn H (ds++[])={results:=[.lit (.bool true)],args:=ds}:=by rw[dH]; exact hs ds (Nq hA)
 refine⟨_,rfl,ds,[],pa,[],pa,[],hW',?_,?_,?_,hb.frame _,fun h=>by cases h⟩
 ·rw[hds,hres];exact trodAll_mk1 (shut_bool hbool _)
 ·rw[hds];exact DW hl hb hrd hA hlt
 ·rw[hds,hsv]; rfl
end
def joined_of {P:Program} {f:FuncId} {fn:Func} {s:ChangeSpec} {c:OpenClaim} (h1:c.wf (OpenSpec.ofChange s)=true) (h2:laidOutB P=true) (h3:mapsRowed P=true) (h4:fn.params.all (P.readableRec ·)=true) (h5:namedTie P c.named s.vars=true)
 (h6:(c.stops==[])=true) (h7:(P.stops==[])=true) (h8:(c.knobs==[])=true) (h9:(P.stopKnobs==[])=true) (h10:(c.inPlace==P.inPlace f)=true) (h11:(c.unfollowed==P.unfollowed f)=true) (h12:(c.recurses==P.recurses f)=true) (h13:(c.named==P.varsNamed f)=true)
 (h14:(c.maps==(fn.params.toList++s.plain.varTypes P).any (P.mapsRec ·))=true) (h15:(c.ifaces==(fn.params.toList++s.plain.varTypes P).any (P.ifacesRec ·))=true) (h16:(c.mapsOut==P.mapsAmong fn.resultTypes.toList)=true)
 (h17:(c.loops==(fn.params.toList++s.plain.varTypes P).any (P.loopsFrom ·))=true) (h18:(c.wideKeys==(fn.params.toList++s.plain.varTypes P++fn.resultTypes.toList).any (P.wideKeysFrom ·))=true)
 (h19:s.vars.all (P.varReadable ·)=true) (h20:fn.resultTypes.all (fun t=>P.readableRec t&&decide (t<P.types.size))=true) (h21:(c.ifacesOut==fn.resultTypes.toList.any (P.ifacesRec ·))=true) (h22:(c.loopsOut==fn.resultTypes.toList.any (P.loopsFrom ·))=true)
 (h23:(c.plainKeys==P.plainKeys)=true) (h24:c.shortTexts.isNone=true) (h25:P.stopsHeard=true) (h26:P.mayEnter=true) (h27:(c.lifted==P.liftsFinal)=true) (h28:(P.make==some c.make)=true)
 (h29:(c.kinds==(if c.domain.isEmpty then[] else fn.params.toList.map fun t=>match P.underlying t with|some (.int k)=>some k|_=>none))=true) (h30:(c.pinned==c.pinnedBy)=true)
 (h31:(c.veiled==(fn.params.toList++s.plain.varTypes P++fn.resultTypes.toList).any (P.veiledRec ·))=true) (h32:c.veiledFits P fn.params.toList (fn.params.toList++s.plain.varTypes P++fn.resultTypes.toList)=true):joinedFacts P f fn s c=true:=by
 unfold joinedFacts;simp only[h1,h2,h3,h4,h5,h6,h7,h8,h9,h10,h11,h12,h13,h14,h15,h16,h17,h18,h19,h20,h21,h22,h23,h24,h25,h26,h27,h28,h30,h31,h32,Bool.and_true];exact h29
end Go.Am
end
