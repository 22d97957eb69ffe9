/- lemmas -/
import Derived.Test.YtbiecdpaididoaaGreatDoorAmB
import Derived.RangeFuncLeaves
import Derived.RangeFuncNested
import Derived.Below
import Derived.ProofKit
import Derived.OpenShut
import Derived.WalkKit
import Derived.SizedLaws
import Derived.Carry
import Derived.Deep.DeepHandedRow
import Derived.Deep.DeepWitnessRowRef
import Derived.Lib.LaidTab
import Derived.Lay
import Derived.MakeChecks
import Derived.LaidSub
import Derived.FnData
import Derived.Test.YtbiecdpaididoaaGreatDoorAmA
import Derived.Lib.AtoiAll
import Derived.Lib.Bytealg
import Derived.Lib.ItoaNum
import Derived.Lib.Join
import Derived.Lib.Split
import Derived.Lib.Strings
set_option linter.all false
noncomputable section
namespace Go.Am
variable [Globs] [Í]
section
variable {ρ:Type} {ν ν':Nat->Value} {h h':NO Blk} {w w':World} {P:Program}
def G5 {v b:AV} (e:Xi v=some b):b=v/\v.isTup=false:=by
 cases v<;>simp only[Xi,Option.some.injEq,reduceCtorEq] at e<;>exact⟨e.symm,rfl⟩
def Rj {S:St} {a:Act} (H:Sim ν S a w) {rv:ResultVar} {v:AV} (e:NS P S.h S.t rv=some v) :
 ∃u,(match rv with|.tmp t=>(pure (a.tmps.getD t undef):Sem Value)|.cell x t=>do loadVar t (<-asAddr (a.tmps.getD x undef))).run P w=.ok u w/\VR2 ν S.h w v u:=by
 cases rv with
 |tmp i =>
  obtain⟨rfl,c⟩:=G5 e;have:=H.tmps i;rw[ph c] at this;exact⟨_,rfl,this⟩
 |cell x t =>
  simp only[NS] at e
  split at e<;>try (cases e; done)
  rename_i j d;obtain⟨rfl,c⟩:=G5 e;obtain⟨u,h1,h2⟩:=UE H.heap d (H.tmps x);rw[ph c] at h2;refine⟨u,?_,h2⟩;simp only[Instr.loadAt] at h1
  cases b:a.tmps.getD x undef with
  |pointer p =>
   rw[b] at h1
   cases p with
   |none=>simp[Instr.sureAddr] at h1
   |some k =>
    show(do loadVar t (<-asAddr (a.tmps.getD x undef)):Sem Value).run P w=_;rw[b];simpa[Instr.sureAddr,asAddr] using h1
  |_=>rw[b] at h1; simp[Instr.sureAddr] at h1
def GG {S:St} {a:Act} (H:Sim ν S a w):∀{rs:NO ResultVar} {vs:NO AV},Cp P S.h S.t rs=some vs ->
 ∃us:NO Value,(rs.mapM (m:=Sem) fun|.tmp t=>pure (a.tmps.getD t undef)|.cell x t=>do loadVar t (<-asAddr (a.tmps.getD x undef))).run P w=.ok us w/\ì (VR2 ν S.h w) vs us
 |[],vs,e=>by cases e; exact⟨[],rfl,trivial⟩
 |rv::rs,vs,e=>by
  simp only[Cp] at e
  split at e<;>try (cases e; done)
  rename_i v d
  split at e<;>try (cases e; done)
  rename_i c b;cases e;obtain⟨u,h1,h2⟩:=Rj H d;obtain⟨us,j,i⟩:=GG H b;refine⟨u::us,?_,h2,i⟩;simp only[List.mapM_cons,Sem.run_bind,Sem.run_pure];rw[h1];simp only[Result.andThen_ok];rw[j];rfl
def VR2.up {v:AV} {u:Value} (b:VR2 ν h w v u):VR ν h w v u:=by
 cases c:v.isTup with
 |true =>
  cases v<;>try cases c
  exact b.elim
 |false=>rw[ph c]; exact b
def GF {S:St} {a:Act} {fn:Func} {v:AV} (H:Sim ν S a w) (e:mO P fn S=some v):∃u,(results fn a.tmps).run P w=.ok u w/\VR ν S.h w v u:=by
 unfold mO at e
 cases c:Cp P S.h S.t fn.results.toList with
 |none=>rw[c] at e; cases e
 |some vs =>
  obtain⟨us,h1,h2⟩:=GG H c
  have b:(results fn a.tmps).run P w=.ok (if h:us.toArray.size=1 then us.toArray[0] else .tuple us.toArray) w:=by
   unfold results;rw[Sem.run_bind,Array.mapM_eq_mapM_toList,Sem.run_map]
   erw [h1]
   rfl
  rw[c] at e
  rcases vs with _|⟨x,_|⟨y,l⟩⟩<;>rcases us with _|⟨u,_|⟨u',m⟩⟩
  ·cases e; exact⟨_,b,⟨#[],by simp,trivial⟩⟩
  ·exact h2.elim
  ·exact h2.elim
  ·exact h2.elim
  ·cases e; exact⟨_,b,h2.1.up⟩
  ·exact h2.2.elim
  ·exact h2.elim
  ·exact h2.2.elim
  ·cases e; exact⟨_,b,⟨(u::u'::m).toArray,by simp,h2⟩⟩
def ì.lk {R:AV->Value->Prop} (b:∀u,R .any u):∀{l:NO AV} {m:NO Value} (i:Nat),ì R l m->R (Am.lk l i) (m.getD i undef)
 |[],[],i,_=>b _
 |_::_,_::_,0,h=>h.1
 |_::_,_::_,i+1,h=>by simpa[Am.lk] using ì.lk b i h.2
 |[],_::_,_,h=>h.elim
 |_::_,[],_,h=>h.elim
def JC (h:Í.Q=none):fen=Fence.wide:=by
 unfold fen;rw[h];rfl
omit [Í] in
def iX {F:Fence} {n:Nat} {fn:Func} {tmps:Array Value} {R:Ending->World->Prop}:∀(ms:NO Nat) (w:World),ms.Nodup->(∀k∈ms,w.heap[k]?=some (.deferred (some []))) ->
 (∀w':World,w'.heap.size=w.heap.size->w'.os=w.os->w'.tape=w.tape->w'.output=w.output->(∀b,b∉ms->w'.heap[b]?=w.heap[b]?)->LeavesIn F n P fn tmps R [] .returning w')->LeavesInM F n P fn tmps R (ms.map mk1) .returning w
 |[],w,_,_,h=>h w rfl rfl rfl rfl fun _ _=>rfl
 |k::ms,w,s,c,h=>by
  refine⟨by simp,.inl ⟨k,_,rfl,run_takeDeferred (c k (.head _)),?_⟩⟩;obtain⟨h1,h2⟩:=dL.1 s;refine iX ms _ h2 (fun j d=>?_) fun w' q o m l i=>h w' (by rw[q]; simp[World.putObj]) o m l fun b hb=>?_
  ·rw[World.putObj_heap_other (fun e=>h1 (by rw[<-e]; exact d))];exact c j (.tail _ d)
  ·rw[i b fun u=>hb (.tail _ u)];exact World.putObj_heap_other fun e=>hb (by rw[e]; exact .head _)
omit [Í] in
def EO {g:Í} {E:Env ρ} {call:NO Nat->Bool->Nat->NO AV->NO Blk->(AV->NO Blk->Nm ρ)->Nm ρ} {N:Nat} (hE:∀M,@f8 _ (g.re g.G [] none M) ρ E N call) (hD:∀M,@kW _ (g.re g.G [] none M) ρ E N call) {path:NO Nat} (s:path.length+2=N) {f:Nat} {d:NO AV} {K:AV->NO Blk->Nm ρ} {r:ρ}
 (hL:∀M fn c,E.P.funcs[f]?=some fn->fn.body=some c->∀x∈Ú 0 c,@gw _ (g.re g.G [] none M) ρ E path f x.1 x.2)
 (e:Qy E call path f d h K=some r) {vals:NO Value} (H:@HR _ g ν h w) (Y:g.B<=w.heap.size) (n:ì (@VR _ g ν h w) d vals) :
 (∃fn c,E.P.funcs[f]?=some fn/\fn.body=some c) /\
 CallsIn Fence.wide 0 E.P f vals.toArray w fun e w'=>∃ν' h' v u,e=.returned u/\@VR _ g ν' h' w' v u/\@HR _ g ν' h' w'/\Ev h.length ν h w ν' h' w'/\h.length<=h'.length/\(∀j,j<h.length->lkB h j=.dead->lkB h' j=.dead)/\K v h'=some r:=by
 unfold Qy at e
 split at e<;>try (cases e; done)
 rename_i fn y
 split at e<;>try (cases e; done)
 rename_i c X;refine⟨⟨fn,c,y,X⟩,?_⟩
 letI g':Í:=g.re g.G [] none w.heap.size
 refine callsIn_of_wp_marks y X trivial ?_;have A:=n.length
 have hS:Sim ν {t:=d++List.replicate (fn.ntmps-d.length) .any,h:=h} {tmps:=vals.toArray++Array.replicate (fn.ntmps-vals.toArray.size) undef,defers:=[]} w:=by
  refine⟨⟨⟨[],rfl,dJ,fun _ h=>(by cases h)⟩,fun l C=>(by cases C),Y,bE _⟩,by simp[A],fun i=>?_,HR.re H⟩;simp only[HG];rcases ce i d.length with hi|hi
  ·have:=ì.lk (R:=@VR _ g ν h w) (fun _=>trivial) i n
   have T:i<vals.length:=by omega
   have h2:(vals.toArray++Array.replicate (fn.ntmps-vals.toArray.size) undef).getD i undef=vals.getD i undef:=by
    simp[b9,du,T]
   rw[h2]; exact this
  ·rw[Xs _ _ hi]; trivial
 have F:=kK (hE _) (hD _) s c 0 _ _ ν _ w (hL _ fn c y X) e hS (bE _);rw[JC rfl] at F;refine wpIn_mono F fun x J w' ha=>?_;obtain⟨ν',I,h1,h2,h3,h4,m⟩:=ha
 have fin:∀v,mO E.P fn I=some v->K v I.h=some r->LeavesInM Fence.wide 0 E.P fn J.tmps (fun e w'=>∃ν' h' v u,e=.returned u/\@VR _ g ν' h' w' v u/\@HR _ g ν' h' w'/\Ev h.length ν h w ν' h' w'/\h.length<=h'.length/\(∀j,j<h.length->lkB h j=.dead->lkB h' j=.dead)/\K v h'=some r) J.defers .returning w':=by
  intro v T W;obtain⟨⟨ms,m1,m2,S⟩,_,m4,m5⟩:=h1.defers;rw[show J.defers=ms.map mk1 from m1.trans (b6 _)];refine iX ms w' m2 (fun k W=>(S k W).1) fun L q1 q2 q3 q4 Z=>?_
  have V:∀(b:Nat) (o:Obj),w'.heap[b]?=some o->AM o=true\/b<g'.B->L.heap[b]?=some o:=fun b o hb hd=>by
   have z:b∉ms:=fun U=>by
    obtain⟨m6,O⟩:=S b U;rw[m6] at hb; cases hb;rcases hd with hd|hd
    ·cases hd
    ·have:g'.B<=w.heap.size:=Y;have O:w.heap.size<=b:=O;omega
   rw[Z b z]; exact hb
  have KG:ŷ g' ν' I.h w' g'.G L:=ŷ.nds q2 q3 q4 (by omega) V;have q:Sim ν' I {J with defers:=[]} L:=⟨⟨⟨[],rfl,dJ,fun _ h=>(by cases h)⟩,fun l C=>(by cases C),Y,by rw[q1]; exact m5⟩,h1.len,fun i=>VR.step (g:=g') (D:=[]) (Q:=none) (M:=w.heap.size) KG (h1.tmps i),HR.step (g:=g') (D:=[]) (Q:=none) (M:=w.heap.size) KG (fun b hb=>by have:=h1.heap.ghlt b hb; omega) (fun b ⟨id,C,ho⟩=>h1.heap.ghne id b C ho) h1.heap⟩;obtain⟨u,r1,r2⟩:=GF q T;refine⟨u,r1,ν',I.h,v,u,rfl,r2,HR.er q.heap,⟨q2.trans h2.os,q3.trans h2.tape,q4.trans h2.output,by rw[q1]; exact h2.size,fun b hb hn=>?_,h2.blk⟩,h3,h4,W⟩;obtain⟨e1,e2⟩:=h2.keep b hb hn;refine⟨?_,e2⟩
  have z:b∉ms:=fun U=>by
   have O:w.heap.size<=b:=(S b U).2;omega
  rw[Z b z]; exact e1
 cases x with
 |normal =>
  simp only at m
  split at m<;>try (cases m; done)
  exact fin _ ‹_› m
 |ret =>
  simp only at m
  split at m<;>try (cases m; done)
  exact fin _ ‹_› m
 |exit id=>cases m
 |goto l=>cases m
 |panic ch=>cases m
 |outgrown=>cases m
def O5 (P:Program) (f:Nat) (X:NO Blk->NO AV->(AV->NO Blk->Nm ρ)->Nm ρ):Prop :=
 ∀(h:NO Blk) (b:NO AV) (K:AV->NO Blk->Nm ρ) (r:ρ),X h b K=some r->∀ν w vals,HR ν h w->ì (VR ν h w) b vals->yv P f ν h w vals K r
structure BG (E:Env ρ):Prop where
 pure:∀f p,E.pure f=some p->Ő E.P f p
 sort:∀f,E.sort f=true->∀(h:NO Blk) (x:AV) (K:AV->NO Blk->Nm ρ) (r:ρ),Il h x K=some r->∀ν w u,HR ν h w->VR ν h w x u->yv E.P f ν h w [u] K r
 compact:∀f,E.compact f=true->∀(h:NO Blk) (x:AV) (K:AV->NO Blk->Nm ρ) (r:ρ),jX h x K=some r->∀ν w u,HR ν h w->VR ν h w x u->yv E.P f ν h w [u] K r
 plain : ∀ (f : Nat) (fn : Func), E.P.funcs[f]? = some fn -> (fn.name == "runtime.NumGoroutine") = false
 clone:zK E.P E.clone
 joins:Q2 E
 yld:Ţ E
 ext:∀f X,E.ext f=some X->O5 E.P f X
omit [Í] in
def Vq {E:Env ρ} (n:Nat):(∀f p,E.pure f=some p->∀path c b h K,Η E (n+1) path c f b h K=Iw (c&&!E.fz f) p h b K) /\
 (∀f,E.pure f=none->E.sort f=true->∀path c b h K,Η E (n+1) path c f b h K=match b with|[x]=>Il h x K|_=>none) /\
 (∀f,E.pure f=none->E.sort f=false->E.compact f=true->∀path c b h K,Η E (n+1) path c f b h K=match b with|[x]=>jX h x K|_=>none) :=
 ⟨fun f p d path c b h K=>by simp only[Η,d],fun f d e path c b h K=>by simp only[Η,d,e]; rfl,fun f d e i path c b h K=>by simp only[Η,d,e,i]; rfl⟩
omit [Í] in
def pc {E:Env ρ} (i:∀[Í],Ţ E->BG E) (hdraw:∀[Í] L call,f8 E L call->kW E L call)
 (hloops:∀n,n<=10->(∀[Í],Ţ E->f8 E (22-2*n) (Η E n))->∀[Í],Ţ E->∀(path:NO Nat) (f:Nat) (fn:Func) (c:Code),path.length+2=22-2*n->E.P.funcs[f]?=some fn->fn.body=some c->∀x∈Ú 0 c,gw E path f x.1 x.2) :
 ∀n,n<=10->∀[Í],Ţ E->f8 E (22-2*n) (Η E n):=by
 intro n
 induction n with
 |zero=>exact fun _ _ l=>⟨.inl fun _ _ _ _ _ _=>rfl,fun path s g m h K r _ e=>(by cases e),(i l).plain,(i l).clone,(i l).joins,l⟩
 |succ n y =>
  intro N k l;have hE:∀[Í],Ţ E->f8 E (22-2*n) (Η E n):=y (by omega);have b:=i l;refine⟨.inr (Vq n),fun path s g m h K r J e ν w vals H F d=>?_,b.plain,b.clone,b.joins,l⟩;simp only[Η] at e
  split at e
  ·rename_i I A;exact Ro (b.pure g I A) e H d
  ·split at e
   ·rename_i z
    split at e<;>try (cases e; done)
    rename_i x;obtain⟨u,rfl,v⟩:=d.one;exact b.sort g z h x K r e ν w u H v
   ·split at e
    ·rename_i B
     split at e<;>try (cases e; done)
     rename_i x;obtain⟨u,rfl,v⟩:=d.one;exact b.compact g B h x K r e ν w u H v
    ·split at e
     ·rename_i X C;exact b.ext g X C h m K r e ν w vals H d
     split at e<;>try (cases e; done)
     split at e<;>try (cases e; done)
     have j:path.length+2=22-2*n:=by omega
     have o:∀M,@Ţ _ (k.re k.G [] none M) ρ E:=fun _=>l;have q:∀M,@f8 _ (k.re k.G [] none M) ρ E (22-2*n) (Η E n):=fun M=>@hE (k.re k.G [] none M) (o M);exact EO q (fun M=>@hdraw (k.re k.G [] none M) _ _ (q M)) j (fun M fn c h1 h2=>@hloops n (by omega) hE (k.re k.G [] none M) (o M) path g fn c j h1 h2) e H F d
end
end Go.Am
end

noncomputable section
namespace Go.Am
variable [Globs] [Í]
section
variable {ρ:Type} {P:Program} {h h2:NO Blk} {t t2:NO AV}
def ja (h h2:NO Blk) (v:AV):Prop:=∀id∈refs2 h v,lkB h2 id=lkB h id
def ja.one {v:AV} (b:ja h h2 v):∀id∈refs1 v,lkB h2 id=lkB h id:=fun id hi=>b id (by simp only[refs2,bJ]; exact .inl hi)
def ja.refs {v:AV} (d:ja h h2 v):refs2 h2 v=refs2 h v:=by
 simp only[refs2]
 have:∀(l:NO Nat),(∀id∈l,lkB h2 id=lkB h id)->(l.flatMap fun id=>(EV (lkB h2 id)).flatMap ü)=l.flatMap fun id=>(EV (lkB h id)).flatMap ü:=by
  intro l
  induction l with
  |nil=>intro _; rfl
  |cons x l c=>intro b; simp only[cj]; rw[b x (by simp),c fun id hi=>b id (by simp[hi])]
 rw[this _ d.one]
def j7 {v:AV} (b:∀id∈ü v,lkB h2 id=lkB h id):î h2 v=î h v:=by
 cases v<;>first
  |rfl
  |(simp only[î]; rw[b _ (by simp[ü])])
def vQ {v:AV} (d:∀id∈refs1 v,lkB h2 id=lkB h id):Pn h2 v=Pn h v:=by
 have one:(∀id∈ü v,lkB h2 id=lkB h id)->î h2 v=î h v:=j7
 cases v with
 |agg cs =>
  simp only[Pn,AV.agg.injEq];exact cV fun c e=>j7 fun id hi=>d id (ci.2 ⟨c,e,hi⟩)
 |fn f a b=>exact one fun _ hi=>by cases hi
 |_=>exact one d
def RT {ty:TypeId} {a:AV} (b:∀id∈refs1 a,lkB h2 id=lkB h id) (K:AV->Nm ρ):Gd P h2 ty a K=Gd P h ty a K:=by
 cases a<;>first
  |rfl
  |(simp only[Gd]; rw[b _ (by simp[refs1,ü])])
def NM {o:Nat} {a:AV} (b:∀id∈refs1 a,lkB h2 id=lkB h id) (K:AV->Nm ρ):tv h2 a o K=tv h a o K:=by
 cases a<;>first
  |rfl
  |(simp only[tv]; rw[b _ (by simp[refs1,ü])])
def On {sz:Nat} {a i:AV} (b:∀id∈refs1 a,lkB h2 id=lkB h id) (K:AV->Nm ρ):xE sz h2 a i K=xE sz h a i K:=by
 cases i<;>try rfl
 cases a<;>first
  |rfl
  |(simp only[xE]; rw[b _ (by simp[refs1,ü])])
def UN {d:Nm TypeDesc} {a:AV} (b:∀id∈refs1 a,lkB h2 id=lkB h id) (K:AV->Nm ρ):Xy d h2 a K=Xy d h a K:=by
 unfold Xy
 split<;>cases a<;>first
  |rfl
  |(simp only[]; rw[b _ (by simp[refs1,ü])])
def Ml {ty:TypeId} {m i:AV} {ok:Bool} (b:∀id∈refs1 m,lkB h2 id=lkB h id) (K:AV->Nm ρ):mB P h2 ty m i ok K=mB P h ty m i ok K:=by
 unfold mB
 have:î h2 m=î h m:=j7 fun id hi=>b id (by cases m<;>first|exact hi|simp[ü] at hi)
 rw[this]
def OP {σ:Type} {a:AV} {K:AV->Nm σ} (b:∀id∈refs1 a,lkB h2 id=lkB h id):ym h2 a K=ym h a K:=by
 cases a<;>first
  |rfl
  |(simp only[ym]; rw[b _ (by simp[refs1,ü])])
def Mm {σ:Type} {P:Program} {ty:TypeId} {id:Nat} {i:AV} {ok:Bool} {K:AV->Nm σ} (b:lkB h2 id=lkB h id):oO P h2 ty id i ok K=oO P h ty id i ok K:=by
 unfold oO;rw[b]
def zO {σ:Type} {sz:Nat} {a:AV} {lo hi:Nm AV} (K:AV->NO Blk->Nm σ):ln sz h a lo hi false K=(ln sz h a lo hi false fun v _=>some v).bind fun v=>K v h:=by
 unfold ln;dsimp only
 (repeat' split)<;>rfl
def NK {sz:Nat} {a:AV} {lo hi:Nm AV} (b:∀id∈refs1 a,lkB h2 id=lkB h id):∃φ:Nm AV,(∀{σ:Type} (K:AV->NO Blk->Nm σ),ln sz h a lo hi false K=φ.bind fun v=>K v h)/\∀{σ:Type} (K:AV->NO Blk->Nm σ),ln sz h2 a lo hi false K=φ.bind fun v=>K v h2:=by
 refine⟨ln sz h a lo hi false fun v _=>some v,fun K=>?_,fun K=>?_⟩
 ·exact zO K
 ·rw[zO K];congr 1
  cases a<;>first
   |rfl
   |(simp only[ln]; rw[b _ (by simp[refs1,ü])])
def ap (nid:Nat) (b:Nm Blk) (h:NO Blk):NO Blk:=match b with|none=>h|some B=>å h nid B
def pbind {α σ σ2:Type} {R:Nm σ->Nm σ2->Prop} (h0:R none none) {x:Nm α} {K:α->Nm σ} {K2:α->Nm σ2} (h:∀a,R (K a) (K2 a)):R (x.bind K) (x.bind K2):=by
 cases x with
 |none=>exact h0
 |some a=>exact h a
def pb2 {α σ σ2:Type} {R:Nm σ->Nm σ2->Prop} (h0:R none none) {x:Nm α} {K:α->Nm σ} {K2:α->Nm σ2} {z:Nm σ} {b:Nm σ2} (h1:z=x.bind K) (h2:b=x.bind K2) (h:∀a,R (K a) (K2 a)):R z b:=by
 subst h1 h2; exact pbind h0 h
def CN {l:NO Operand} (b:∀x∈l,ev t2 x=ev t x):l.map (ev t2)=l.map (ev t):=cV b
def Uc {l:NO (Nat×Operand)} (b:∀x∈l.map (·.2),ev t2 x=ev t x):(l.map fun p=>(p.1,ev t2 p.2))=l.map fun p=>(p.1,ev t p.2):=cV fun p c=>by rw[b p.2 (dc.2 ⟨p,c,rfl⟩)]
def GD {ty:Ty}:∀{ps:NO (Nat×AV)} {n:Nat},(∀p∈ps,∀id∈refs1 p.2,lkB h2 id=lkB h id)->Fp h2 ty n ps=Fp h ty n ps
 |[],_,_=>rfl
 |(i,v)::ps,n,b=>by
  simp only[Fp];rw[vQ (b (i,v) (by simp)),GD fun q c=>b q (by simp[c])]
def YA {σ σ2:Type} {R:Nm σ->Nm σ2->Prop} {E:Env ρ} {o:Op} {nid:Nat} {K:AV->St->Nm σ} {K2:AV->St->Nm σ2} (h0:R none none) (z:cls E o<=1) (G:HJ o=false)
 (k:∀x∈o.operands.toList,ev t2 x=ev t x) (F:cls E o=1->∀x∈o.operands.toList,∀id∈refs1 (ev t x),lkB h2 id=lkB h id)
 (L:∀v J,(J.isSome=true->ô E.clone o=true)->R (K v {t:=t,h:=ap nid J h}) (K2 v {t:=t2,h:=ap nid J h2})) :
 R (opK P {t:=t,h:=h} nid false o K) (opK P {t:=t2,h:=h2} nid false o K2):=by
 have j:∀v,R (K v {t:=t,h:=h}) (K2 v {t:=t2,h:=h2}):=fun v=>L v none (by simp);have ha:ô E.clone o=true->∀v B,R (K v {t:=t,h:=å h nid B}) (K2 v {t:=t2,h:=å h2 nid B}):=fun U v B=>L v (some B) fun _=>U
 cases o with
 |move x =>
  have e:=k x (by simp[Op.operands]);simp only[opK,e]; exact j _
 |assign x =>
  have e:=k x (by simp[Op.operands]);simp only[opK,e]; exact j _
 |pick c a b =>
  have s:=k c (by simp[Op.operands]);have A:=k a (by simp[Op.operands]);have T:=k b (by simp[Op.operands]);simp only[opK,s,A,T]
  (repeat' split)<;>first|exact h0|exact j _
 |box _ x =>
  have e:=k x (by simp[Op.operands]);simp only[opK,e]
  (repeat' split)<;>first|exact h0|exact ha rfl _ _
 |alloc e =>
  simp only[opK]
  (repeat' split)<;>first|exact h0|exact ha rfl _ _
 |build ty ps =>
  have e:=Uc (l:=ps.toList) (t:=t) (t2:=t2) fun x q=>k x (by simpa[Op.operands] using q);simp only[opK,e]
  (repeat' split)<;>first|exact h0|exact j _
 |buildSlice ty n ps=>exact absurd z (by decide:¬2<=1)
 |load ty a =>
  have e:=k a (by simp[Op.operands]);have d:=F rfl a (by simp[Op.operands]);simp only[opK,e];rw[RT d];exact pb2 h0 (nA ..) (nA ..) fun v=>j v
 |nilCheck x =>
  have e:=k x (by simp[Op.operands]);have d:=F rfl x (by simp[Op.operands]);simp only[opK,e]
  cases S:ev t x with
  |optr id g i off =>
   have:=d id (by rw[S]; simp[refs1,ü]);simp only[this]
   (repeat' split)<;>first|exact h0|exact j _
  |_=>first|exact h0|exact j _
 |binOp op ty x y yt =>
  have s:=k x (by simp[Op.operands]);have A:=k y (by simp[Op.operands]);simp only[opK,s,A]
  split
  ·exact pb2 h0 (sk ..) (sk ..) fun v=>j v
  ·exact pb2 h0 (sZ ..) (sZ ..) fun v=>j v
 |unOp op ty x =>
  have e:=k x (by simp[Op.operands]);simp only[opK,e]
  (repeat' split)<;>first|exact h0|exact j _|exact pb2 h0 (vK ..) (vK ..) fun v=>j v
 |convert src dst x =>
  have e:=k x (by simp[Op.operands]);have d:=F rfl x (by simp[Op.operands]);simp only[opK,e]
  (repeat' split)<;>first|exact h0|exact j _|(rw[OP d]; exact pb2 h0 (ki ..) (ki ..) fun v=>j v)
 |makeFunc fn first captured =>
  have s:=CN (l:=first.toList) (t:=t) (t2:=t2) fun x q=>k x (by simp[Op.operands]; exact .inl (by simpa using q));have A:=CN (l:=captured.toList) (t:=t) (t2:=t2) fun x q=>k x (by simp[Op.operands]; exact .inr (by simpa using q));simp only[opK,s,A]
  (repeat' split)<;>first|exact h0|exact j _
 |makeMap ty r =>
  simp only[opK]
  (repeat' split)<;>first|exact h0|exact ha rfl _ _
 |makeSlice ty l c =>
  have e:=k l (by simp[Op.operands]);simp only[opK,e]
  (repeat' split)<;>first|exact h0|exact ha rfl _ _
 |slice ty x lo hi mx =>
  have e:=k x (by simp[Op.operands]);have d:=F rfl x (by simp[Op.operands])
  have s:lo.map (ev t2)=lo.map (ev t):=by
   cases lo with
   |none=>rfl
   |some l=>simp[k l (by simp[Op.operands])]
  have A:hi.map (ev t2)=hi.map (ev t):=by
   cases hi with
   |none=>rfl
   |some l=>simp[k l (by simp[Op.operands])]
  simp only[opK,e,s,A]
  (repeat' split)<;>first
   |exact h0
   |exact pb2 h0 (Κ ..) (Κ ..) fun v=>j v
   | (obtain ⟨φ, O, N⟩ := NK d
      rw[O,N]
      exact pbind h0 fun v=>j v)
 |fieldAddr ty x f =>
  have e:=k x (by simp[Op.operands]);have d:=F rfl x (by simp[Op.operands]);simp only[opK,e]
  (repeat' split)<;>first
   |exact h0
   |(rw[NM d]; exact pb2 h0 (j9 ..) (j9 ..) fun v=>j v)
 |field ty x f =>
  have e:=k x (by simp[Op.operands]);simp only[opK,e]
  (repeat' split)<;>first|exact h0|exact j _
 |indexAddr ty x i =>
  have s:=k x (by simp[Op.operands]);have A:=k i (by simp[Op.operands]);have d:=F rfl x (by simp[Op.operands]);simp only[opK,s,A]
  (repeat' split)<;>first
   |exact h0
   |exact j _
   |exact pb2 h0 (Ŧ ..) (Ŧ ..) fun v=>j _
   |(rw[On d]; exact pb2 h0 (ke ..) (ke ..) fun v=>j v)
 |index ty x i =>
  have s:=k x (by simp[Op.operands]);have A:=k i (by simp[Op.operands]);simp only[opK,s,A]
  (repeat' split)<;>first|exact h0|exact j _|exact pb2 h0 (Λ ..) (Λ ..) fun v=>j v|exact pb2 h0 (Ŧ ..) (Ŧ ..) fun v=>by(repeat' split)<;>first|exact h0|exact j _
 |lookup ty m i ok =>
  have s:=k m (by simp[Op.operands]);have A:=k i (by simp[Op.operands]);have d:=F rfl m (by simp[Op.operands]);simp only[opK,s,A]
  cases q:ev t m with
  |ofn id =>
   rw[q] at d;simp only;rw[Mm (d id (by simp[refs1,ü]))];exact pb2 h0 (ir ..) (ir ..) fun v=>j v
  |_ =>
   rw[q] at d;simp only;rw[Ml d];exact pb2 h0 (iq ..) (iq ..) fun v=>j v
 |extract x i =>
  have e:=k x (by simp[Op.operands]);simp only[opK,e]
  (repeat' split)<;>first|exact h0|exact j _
 |call c =>
  obtain⟨C,u,tys⟩:=c
  cases C with
  |builtin b =>
   have e:=CN (l:=u.toList) (t:=t) (t2:=t2) fun x q=>k x (by simpa[Op.operands,Call.operands] using q);have d:cls E (.call ⟨.builtin b,u,tys⟩)=1->∀x∈u.toList,∀id∈refs1 (ev t x),lkB h2 id=lkB h id:=fun h1 x q=>F h1 x (by simpa[Op.operands,Call.operands] using q);generalize I:u.toList=l at e d;generalize q:tys.toList=m
   cases b with
   |append=>simp[cls] at z
   |clear=>simp[cls] at z
   |len =>
    rcases l with _|⟨x,_|⟨y,l⟩⟩<;>rcases m with _|⟨ty,m⟩<;>simp only[opK,I,q]<;>try exact h0
    have s:ev t2 x=ev t x:=by simpa using e
    rw[s,UN (d rfl x (by simp))];exact pb2 h0 (sg ..) (sg ..) fun v=>j v
   |cap =>
    rcases l with _|⟨x,_|⟨y,l⟩⟩<;>rcases m with _|⟨ty,m⟩<;>simp only[opK,I,q]<;>try exact h0
    have s:ev t2 x=ev t x:=by simpa using e
    rw[s]
    (repeat' split)<;>first|exact h0|exact j _
   |min =>
    rcases l with _|⟨x,l⟩<;>simp only[opK,I,q]<;>try exact h0
    simp only[cE,List.cons.injEq] at e;rw[e.1,e.2];exact pb2 h0 (Ŝ _ _ _ _) (Ŝ _ _ _ _) fun v=>j v
   |max =>
    rcases l with _|⟨x,l⟩<;>simp only[opK,I,q]<;>try exact h0
    simp only[cE,List.cons.injEq] at e;rw[e.1,e.2];exact pb2 h0 (Ŝ _ _ _ _) (Ŝ _ _ _ _) fun v=>j v
   |_=>simp only[opK]; (repeat' split)<;>first|exact h0|contradiction
  |value f=>cases G
  |invoke r m=>exact h0
 |store=>simp[cls] at z
 |mapUpdate=>simp[cls] at z
 |insert=>simp[cls] at z
 |_=>exact h0
def aps (ups:NO (Nat×Blk)) (h:NO Blk):NO Blk:=ups.foldl (fun h p=>å h p.1 p.2) h
def zG {id:Nat} {B:Blk}:aps [(id,B)] h=å h id B:=rfl
def gu {u v:NO (Nat×Blk)}:aps (u++v) h=aps v (aps u h):=by simp[aps]
def nD:∀(ups:NO (Nat×Blk)) (h:NO Blk),(aps ups h).length=h.length
 |[],_=>rfl
 |p::ups,h=>by show(aps ups (å h p.1 p.2)).length=_; rw[nD ups,Î]
def Ie {id:Nat}:∀{ups:NO (Nat×Blk)} {h:NO Blk},(∀p∈ups,p.1≠id)->lkB (aps ups h) id=lkB h id
 |[],_,_=>rfl
 |p::ups,h,b=>by
  show lkB (aps ups (å h p.1 p.2)) id=_;rw[Ie fun q c=>b q (by simp[c]),Ì _ (Ne.symm (b p (by simp)))]
def s7 {id:Nat}:∀{ups:NO (Nat×Blk)} {h h2:NO Blk},h2.length=h.length->lkB h2 id=lkB h id->lkB (aps ups h2) id=lkB (aps ups h) id
 |[],_,_,_,b=>b
 |p::ups,h,h2,c,b=>s7 (ups:=ups) (h:=å h p.1 p.2) (h2:=å h2 p.1 p.2) (by simp[Î,c]) (by simp only[mc,c,b])
def Qt {v:AV} (i:∀id∈ü v,lkB h2 id=lkB h id):∃ups,kX h v=aps ups h/\kX h2 v=aps ups h2/\∀p∈ups,p.1∈ü v:=by
 have c:kX h v=h->kX h2 v=h2->∃ups,kX h v=aps ups h/\kX h2 v=aps ups h2/\∀p∈ups,p.1∈ü v:=fun h1 d=>⟨[],h1,d,by simp⟩
 cases v with
 |own id g =>
  have e:=i id (by simp[ü])
  cases b:lkB h id with
  |row t g fz xs =>
   rw[b] at e;exact⟨[(id,.row t g true xs)],by simp only[kX,b]; rfl,by simp only[kX,e]; rfl,by simp[ü]⟩
  |_=>rw[b] at e; exact c (by simp only[kX,b]) (by simp only[kX,e])
 |sub id g lo n =>
  have e:=i id (by simp[ü])
  cases b:lkB h id with
  |row t g fz xs =>
   rw[b] at e;exact⟨[(id,.row t g true xs)],by simp only[kX,b]; rfl,by simp only[kX,e]; rfl,by simp[ü]⟩
  |_=>rw[b] at e; exact c (by simp only[kX,b]) (by simp only[kX,e])
 |_=>exact c rfl rfl
def Jv:∀{cs:NO AV} {h h2:NO Blk},h2.length=h.length->(∀c∈cs,∀id∈ü c,lkB h2 id=lkB h id)->∃ups,tg h cs=aps ups h/\tg h2 cs=aps ups h2/\∀p∈ups,∃c∈cs,p.1∈ü c
 |[],_,_,_,_=>⟨[],rfl,rfl,by simp⟩
 |c::cs,h,h2,j,i=>by
  obtain⟨u,h1,e,n⟩:=Qt (i c (by simp));obtain⟨v,m,l,k⟩:=Jv (cs:=cs) (h:=kX h c) (h2:=kX h2 c) (by rw[iw,iw,j]) (fun d hd id hi=>by rw[h1,e]; exact s7 j (i d (by simp[hd]) id hi));refine⟨u++v,by simp only[tg]; rw[m,h1,gu],by simp only[tg]; rw[l,e,gu],fun p b=>?_⟩;rcases bJ.1 b with b|b
  ·exact⟨c,by simp,n p b⟩
  ·obtain⟨d,hd,hi⟩:=k p b;exact⟨d,by simp[hd],hi⟩
def Jt {v:AV} (k:h2.length=h.length) (j:∀id∈refs1 v,lkB h2 id=lkB h id):∃ups,frz h v=aps ups h/\frz h2 v=aps ups h2/\∀p∈ups,p.1∈refs1 v:=by
 have one:(∀id∈ü v,lkB h2 id=lkB h id)->∃ups,kX h v=aps ups h/\kX h2 v=aps ups h2/\∀p∈ups,p.1∈ü v:=Qt
 cases v with
 |agg cs =>
  obtain⟨u,h1,d,i⟩:=Jv (cs:=cs) k fun c l id hi=>j id (ci.2 ⟨c,l,hi⟩);exact⟨u,h1,d,fun p e=>ci.2 (i p e)⟩
 |fn f a b =>
  obtain⟨u,h1,d,i⟩:=one fun _ hi=>by cases hi
  exact⟨u,h1,d,fun p e=>by cases i p e⟩
 |_=>exact one j
def zN {ty:Ty} {x:AV} (b:∀id∈refs1 x,lkB h2 id=lkB h id):Ö (.slice ty) [î h2 x]=Ö (.slice ty) [î h x]:=by
 have:î h2 x=î h x:=j7 fun id hi=>b id (by cases x<;>first|exact hi|simp[ü] at hi)
 rw[this]
def Sy {v:AV} {vs:NO AV} (d:ģ v=some vs):∀c∈vs,∀id∈ü c,id∈refs1 v:=by
 intro c b id hi
 cases v<;>simp only[ģ,Option.some.injEq,reduceCtorEq] at d<;>subst d
 all_goals first
  |(simp only[bK] at b; subst b; exact hi)
  |(simp only[bK] at b; subst b; cases hi; done)
  |exact ci.2 ⟨c,b,hi⟩
def Kq {σ σ2:Type} {R:Nm σ->Nm σ2->Prop} {ty:TypeId} {a v:AV} {K:NO Blk->Nm σ} {K2:NO Blk->Nm σ2} (h0:R none none) (d:h2.length=h.length)
 (k:∀id∈refs1 a,lkB h2 id=lkB h id) (n:∀id∈refs1 v,lkB h2 id=lkB h id) (m:∀ups,(∀p∈ups,p.1∈refs1 a\/p.1∈refs1 v)->R (K (aps ups h)) (K2 (aps ups h2))):R (pk P h ty a v K) (pk P h2 ty a v K2):=by
 unfold pk
 split<;>try exact h0
 rename_i vs l
 split<;>try exact h0
 split<;>try exact h0
 ·rename_i id off;have e:=k id (by simp[refs1,ü]);rw[e]
  (repeat' split)<;>first
   |exact h0
   |exact m [(id,_)] fun p b=>.inl (by simp only[bK] at b; subst b; simp[refs1,ü])
 ·rename_i id g i off;have e:=k id (by simp[refs1,ü]);obtain⟨u,s,o,z⟩:=Jt (v:=v) d n
  have B:lkB (frz h2 v) id=lkB (frz h v) id:=by rw[s,o]; exact s7 d e
  have A:vs.map (î h2)=vs.map (î h):=cV fun c y=>j7 fun id hi=>n id (Sy l c y id hi);rw[B,A]
  (repeat' split)<;>first
   |exact h0
   | (rw [s, o]
      refine m (u++[(id,_)]) (fun p b=>?_) |> fun q=>(by simpa only[gu,zG] using q)
      rcases bJ.1 b with b|b
      ·exact .inr (z p b)
      ·exact .inl (by simp only[bK] at b; subst b; simp[refs1,ü]))
 ·rename_i id g i j;have e:=k id (by simp[refs1,ü]);rw[e]
  (repeat' split)<;>first
   |exact h0
   |exact m [(id,_)] fun p b=>.inl (by simp only[bK] at b; subst b; simp[refs1,ü])
def Qr:∀{ps:NO (Nat×AV)} {h h2:NO Blk},h2.length=h.length->(∀p∈ps,∀id∈refs1 p.2,lkB h2 id=lkB h id)->∃ups,frzA h ps=aps ups h/\frzA h2 ps=aps ups h2/\∀p∈ups,∃q∈ps,p.1∈refs1 q.2
 |[],_,_,_,_=>⟨[],rfl,rfl,by simp⟩
 |(i,v)::ps,h,h2,e,j=>by
  obtain⟨u,h1,b,n⟩:=Jt (v:=v) e (j (i,v) (by simp));obtain⟨w,m,l,k⟩:=Qr (ps:=ps) (h:=frz h v) (h2:=frz h2 v) (by rw[h1,b,nD,nD,e]) (fun q d id hi=>by rw[h1,b]; exact s7 e (j q (by simp[d]) id hi));refine⟨u++w,by simp only[frzA]; rw[m,h1,gu],by simp only[frzA]; rw[l,b,gu],fun p c=>?_⟩;rcases bJ.1 c with c|c
  ·exact⟨(i,v),by simp,n p c⟩
  ·obtain⟨q,d,hi⟩:=k p c;exact⟨q,by simp[d],hi⟩
def Zh {σ σ2:Type} {R:Nm σ->Nm σ2->Prop} {E:Env ρ} {o:Op} {nid:Nat} {eat:Bool} {K:AV->St->Nm σ} {K2:AV->St->Nm σ2} (h0:R none none) (W:cls E o=2) (X:HJ o=false) (k:h2.length=h.length) (heat:∀ty n ps,o=.buildSlice ty n ps->eat=false)
 (I:∀x∈o.operands.toList,ev t2 x=ev t x) (S:∀x∈o.operands.toList,∀id∈refs1 (ev t x),lkB h2 id=lkB h id)
 (F:∀v ups,(∀p∈ups,(p.1=nid/\ô E.clone o=true)\/∃x∈o.operands.toList,p.1∈refs1 (ev t x))->R (K v {t:=t,h:=aps ups h}) (K2 v {t:=t2,h:=aps ups h2})) :
 R (opK P {t:=t,h:=h} nid eat o K) (opK P {t:=t2,h:=h2} nid eat o K2):=by
 cases o with
 |buildSlice ty n ps =>
  obtain rfl:=heat ty n ps rfl;have e:=Uc (l:=ps.toList) (t:=t) (t2:=t2) fun x A=>I x (by simpa[Op.operands] using A)
  have hsp:∀p∈ps.toList.map (fun p=>(p.1,ev t p.2)),∀id∈refs1 p.2,lkB h2 id=lkB h id:=fun p d=>by
   obtain⟨q,hq,rfl⟩:=dc.1 d;exact S q.2 (by simpa[Op.operands] using⟨q.1,by simpa using hq⟩)
  have hr:∀ty n,Fp h2 ty n (ps.toList.map fun p=>(p.1,ev t p.2))=Fp h ty n (ps.toList.map fun p=>(p.1,ev t p.2)):=fun ty n=>GD hsp;obtain⟨u,f1,f2,f3⟩:=Qr k hsp;simp only[opK,e,hr,f1,f2]
  (repeat' split)<;>first
   |exact h0
   | (refine F _ (u ++ [(nid, _)]) (fun p d => ?_) |> fun q => (by simpa only [gu, zG] using q)
      rcases bJ.1 d with d|d
      ·obtain⟨q,hq,hi⟩:=f3 p d;obtain⟨q',hq',rfl⟩:=dc.1 hq;exact .inr ⟨q'.2,by simpa[Op.operands] using⟨q'.1,by simpa using hq'⟩,hi⟩
      ·exact .inl ⟨by simp only[bK] at d; subst d; rfl,rfl⟩)
 |store ty a v =>
  have e1:=I a (by simp[Op.operands]);have e2:=I v (by simp[Op.operands]);have G:=S a (by simp[Op.operands]);have s2:=S v (by simp[Op.operands]);have ma:∀{id:Nat},id∈refs1 (ev t a)->∃x∈(Op.store ty a v).operands.toList,id∈refs1 (ev t x):=fun hi=>⟨a,by simp[Op.operands],hi⟩;have mv:∀{id:Nat},id∈refs1 (ev t v)->∃x∈(Op.store ty a v).operands.toList,id∈refs1 (ev t x):=fun hi=>⟨v,by simp[Op.operands],hi⟩;simp only[opK,e1,e2]
  cases eat with
  |false =>
   simp only;exact Kq h0 k G s2 fun ups V=>F _ ups fun p d=>.inr ((V p d).elim ma mv)
  |true =>
   simp only
   cases J:ev t v with
   |sub id g lo n =>
    rw[J] at s2 mv;have Y:=s2 id (by simp[refs1,ü]);simp only[Y]
    split<;>try exact h0
    split<;>try exact h0
    refine Kq h0 (by simp[Î,k]) (fun j hj=>?_) (fun j hj=>?_) fun ups V=>F _ ((id,_)::ups) fun p d=>.inr ?_
    ·exact s7 (ups:=[(id,_)]) k (G j hj)
    ·simp only[refs1,ü,bK] at hj;subst hj;exact s7 (ups:=[(_,_)]) k Y
    ·rcases bL.1 d with rfl|d
     ·exact mv (by simp[refs1,ü])
     ·rcases V p d with V|V
      ·exact ma V
      ·exact mv (by simpa[refs1,ü] using V)
   |_=>exact h0
 |mapUpdate ty m i x =>
  have e1:=I m (by simp[Op.operands]);have e2:=I i (by simp[Op.operands]);have Y:=I x (by simp[Op.operands]);have G:=S m (by simp[Op.operands]);have Z:=S x (by simp[Op.operands]);obtain⟨u,f1,f2,f3⟩:=Jt (v:=ev t x) k Z;simp only[opK,e1,e2,Y]
  split
  ·rename_i id A;rw[A] at G;unfold Ů;rw[G id (by simp[refs1,ü])]
   (repeat' split)<;>first
    |exact h0
    | (refine F _ [(id, _)] (fun p d => ?_) |> fun q => (by simpa only [zG] using q)
       exact .inr ⟨m,by simp[Op.operands],by simp only[bK] at d; subst d; rw[A]; simp[refs1,ü]⟩)
  unfold ŭ;rw[vQ Z]
  split<;>try exact h0
  split<;>try exact h0
  rename_i id A;rw[A] at G;rw[G id (by simp[refs1,ü])]
  (repeat' split)<;>first
   |exact h0
   | (rw [f1, f2]
      refine F _ (u++[(id,_)]) (fun p d=>?_) |> fun q=>(by simpa only[gu,zG] using q)
      rcases bJ.1 d with d|d
      ·exact .inr ⟨x,by simp[Op.operands],f3 p d⟩
      ·exact .inr ⟨m,by simp[Op.operands],by simp only[bK] at d; subst d; rw[A]; simp[refs1,ü]⟩)
 |insert ty m i x =>
  have e1:=I m (by simp[Op.operands]);have e2:=I i (by simp[Op.operands]);have Y:=I x (by simp[Op.operands]);have G:=S m (by simp[Op.operands]);have Z:=S x (by simp[Op.operands]);obtain⟨u,f1,f2,f3⟩:=Jt (v:=ev t x) k Z;simp only[opK,e1,e2,Y]
  split
  ·rename_i id A;rw[A] at G;unfold Ů;rw[G id (by simp[refs1,ü])]
   (repeat' split)<;>first
    |exact h0
    | (refine F _ [(id, _)] (fun p d => ?_) |> fun q => (by simpa only [zG] using q)
       exact .inr ⟨m,by simp[Op.operands],by simp only[bK] at d; subst d; rw[A]; simp[refs1,ü]⟩)
  unfold ŭ;rw[vQ Z]
  split<;>try exact h0
  split<;>try exact h0
  rename_i id A;rw[A] at G;rw[G id (by simp[refs1,ü])]
  (repeat' split)<;>first
   |exact h0
   | (rw [f1, f2]
      refine F _ (u++[(id,_)]) (fun p d=>?_) |> fun q=>(by simpa only[gu,zG] using q)
      rcases bJ.1 d with d|d
      ·exact .inr ⟨x,by simp[Op.operands],f3 p d⟩
      ·exact .inr ⟨m,by simp[Op.operands],by simp only[bK] at d; subst d; rw[A]; simp[refs1,ü]⟩)
 |call c =>
  obtain⟨O,s,tys⟩:=c
  cases O with
  |builtin b =>
   have e:=CN (l:=s.toList) (t:=t) (t2:=t2) fun x A=>I x (by simpa[Op.operands,Call.operands] using A);have N:∀x∈s.toList,∀id∈refs1 (ev t x),lkB h2 id=lkB h id:=fun x A=>S x (by simpa[Op.operands,Call.operands] using A)
   have C:∀x∈s.toList,x∈(Op.call ⟨.builtin b,s,tys⟩).operands.toList:=fun x A=>by simpa[Op.operands,Call.operands] using A
   generalize hl:s.toList=l at e N C;generalize A:tys.toList=m
   cases b with
   |append =>
    rcases l with _|⟨x,_|⟨y,_|⟨z,l⟩⟩⟩<;>rcases m with _|⟨ty,_|⟨ty',_|⟨ty'',m⟩⟩⟩<;>simp only[opK,hl,A]<;>try exact h0
    simp only[cE,List.cons.injEq,dH,and_true] at e;rw[e.1,e.2];have U:=N x (by simp);have sy:=N y (by simp);have T:∀v B,R (K v {t:=t,h:=å h nid B}) (K2 v {t:=t2,h:=å h2 nid B}):=fun v B=>F v [(nid,B)] fun p d=>.inl ⟨by simp only[bK] at d; subst d; rfl,rfl⟩
    (repeat' split)<;>first
     |exact h0
     | (unfold rM
        simp only[zN sy]
        split<;>try exact h0
        split<;>try exact h0
        split<;>try exact h0
        split<;>try exact h0
        split<;>try exact h0
        ·split<;>first|exact h0|exact T _ _
        ·rename_i id g J;rw[J] at U;rw[U id (by simp[refs1,ü])]
         (repeat' split)<;>first
          |exact h0
          |exact F _ [(id,_)] fun p d=>.inr ⟨x,C x (by simp),by simp only[bK] at d; subst d; rw[J]; simp[refs1,ü]⟩)
     | (rename_i L g2 hdp
        rw[hdp] at sy;have my:∃q∈(Op.call ⟨.builtin .append,s,tys⟩).operands.toList,L∈refs1 (ev t q):=⟨y,C y (by simp),by rw[hdp]; simp[refs1,ü]⟩;unfold MR;rw[sy L (by simp[refs1,ü])]
        split<;>try exact h0
        split<;>try exact h0
        split<;>try exact h0
        split<;>try exact h0
        split<;>try exact h0
        ·split<;>first
          |exact h0
          |exact F _ [(L,_),(nid,_)] fun p d=>by
             simp only[bL,dh,or_false] at d;rcases d with rfl|rfl
             ·exact .inr my
             ·exact .inl ⟨rfl,rfl⟩
        ·rename_i id g J;rw[J] at U;have mx:∃q∈(Op.call ⟨.builtin .append,s,tys⟩).operands.toList,id∈refs1 (ev t q):=⟨x,C x (by simp),by rw[J]; simp[refs1,ü]⟩;rw[U id (by simp[refs1,ü])]
         (repeat' split)<;>first
          |exact h0
          |exact F _ [(L,_),(id,_)] fun p d=>by
             simp only[bL,dh,or_false] at d;rcases d with rfl|rfl
             ·exact .inr my
             ·exact .inr mx)
     | (unfold zL
        (repeat' split)<;>first|exact h0|exact T _ _)
   |clear =>
    rcases l with _|⟨x,_|⟨y,l⟩⟩<;>rcases m with _|⟨ty,_|⟨ty',m⟩⟩<;>simp only[opK,hl,A]<;>try exact h0
    simp only[cE,List.cons.injEq,dH,and_true] at e;rw[e];have U:=N x (by simp)
    split<;>try exact h0
    unfold Ay
    split<;>try exact h0
    ·exact F _ [] (by simp)
    ·rename_i id g lo n _ J _;rw[J] at U;rw[U id (by simp[refs1,ü])]
     (repeat' split)<;>first
      |exact h0
      |exact F _ [(id,_)] fun p d=>.inr ⟨x,C x (by simp),by simp only[bK] at d; subst d; rw[J]; simp[refs1,ü]⟩
   |_=>simp[cls] at W
  |value f=>cases X
  |invoke r m=>simp[cls] at W
 |_=>simp[cls] at W
end
end Go.Am
end

noncomputable section
namespace Go.Am
variable [Globs] [Í]
section
variable {ρ:Type} {P:Program} {h h2:NO Blk} {t t2:NO AV}
def Nh {ty:Ty} {a:AV} (b:ja h h2 a):WG h2 ty a=WG h ty a:=by
 have d:Pn h2 a=Pn h a:=vQ b.one
 cases ty with
 |ptr u =>
  cases a with
  |box id off =>
   cases off with
   |zero =>
    have h1:lkB h2 id=lkB h id:=b.one id (by simp[refs1,ü]);simp only[WG,h1]
    cases e:lkB h id with
    |cells cs =>
     simp only
     have:cs.map (î h2)=cs.map (î h):=cV fun c j=>j7 fun i hi=>b i (by
      simp only[refs2,bJ,ci]
      exact .inr ⟨id,by simp[refs1,ü],by rw[e]; exact⟨c,j,hi⟩⟩)
     rw[this]
    |_=>rfl
   |succ n=>rfl
  |eptr t' x off=>cases off<;>rfl
  |_=>rfl
 |_=>cases a with
  |dp id g =>
   have h1:lkB h2 id=lkB h id:=b.one id (by simp[refs1,ü]);simp only[WG,h1]
  |_=>simp only[WG,d]
def Ib:∀{l:NO Ty} {ty:Ty} {as:NO AV},(∀a∈as,ja h h2 a)->J2 h2 l ty as=J2 h l ty as
 |[],ty,[],_=>rfl
 |[],ty,[a],c=>by simp only[J2]; exact Nh (c a (by simp))
 |[],ty,_::_::_,_=>rfl
 |u::l,ty,[],_=>rfl
 |u::l,ty,a::as,c=>by
  simp only[J2];rw[Nh (c a (by simp)),Ib fun b hb=>c b (by simp[hb])]
def Ic {l:NO Ty} {as:NO AV} (b:∀a∈as,ja h h2 a):vJ h2 l as=vJ h l as:=by
 cases l with
 |nil=>rfl
 |cons ty l=>exact Ib b
def Ow {E:Env ρ} {o:Op} (c:∀x∈o.operands.toList,ev t2 x=ev t x):HX E t2 o=HX E t o:=by
 unfold HX
 split
 ·rename_i s b tys;rw[c (.tmp s) (by simp[Op.operands,Call.operands])]
 ·rfl
def EQ {E:Env ρ} {o:Op} (d:∀x∈o.operands.toList,ev t2 x=ev t x) (e:1<=cls E o->∀x∈o.operands.toList,ja h h2 (ev t x)) :
 ig E {t:=t2,h:=h2} o=ig E {t:=t,h:=h} o:=by
 unfold ig
 split
 ·rename_i i;have b:1<=cls E o:=cD i
  have h1:(o.operands.toList.all fun x=>(refs2 h2 (ev t2 x)).all fun id=>!UT (lkB h2 id))=o.operands.toList.all fun x=>(refs2 h (ev t x)).all fun id=>!UT (lkB h id):=by
   rw[cN];simp only[b8];refine forall_congr' fun x=>forall_congr' fun c=>?_;rw[d x c,(e b x c).refs]
   exact forall_congr' fun id=>forall_congr' fun hi=>by rw[e b x c id hi]
  exact congr (congrArg and h1) (Ow d)
 ·rfl
def jS {E:Env ρ} {o:Op} (b:1<=cls E o) {id:Nat}:id∈tj E {t:=t,h:=h} o↔∃x∈o.operands.toList,id∈refs2 h (ev t x):=by
 unfold tj;have:Nat.ble 1 (cls E o)=true:=Nat.ble_eq_true_of_le b;simp only[this,List.mem_flatMap]
def xL {E:Env ρ} {o:Op} (b:cls E o=0) {S:St}:tj E S o=[]:=by
 unfold tj; rw[b]
def Loc (E:Env ρ) (o:Op) (nid:Nat) (t:NO AV) (h:NO Blk) (t2:NO AV) (h2:NO Blk) (z b:(AV->St->Nm ρ)->Nm ρ):Prop :=
 ∃φ:Nm (AV×NO (Nat×Blk)),(∀r,φ=some r->∀p∈r.2,(p.1=nid/\ô E.clone o=true)\/(cls E o=2/\p.1∈tj E {t:=t,h:=h} o)) /\
  (∀K,z K=φ.bind fun r=>K r.1 {t:=t,h:=aps r.2 h})/\∀K,b K=φ.bind fun r=>K r.1 {t:=t2,h:=aps r.2 h2}
def Loc.no {E:Env ρ} {o:Op} {nid:Nat} {z c:(AV->St->Nm ρ)->Nm ρ} (h1:∀K,z K=none) (b:∀K,c K=none):Loc E o nid t h t2 h2 z c :=
 ⟨none,by simp,fun K=>by rw[h1]; rfl,fun K=>by rw[b]; rfl⟩
def Vn {σ σ2:Type} {R:Nm σ->Nm σ2->Prop} {g nid:Nat} {fz:Bool} {x:AV} {K:AV->St->Nm σ} {K2:AV->St->Nm σ2} (h0:R none none) (d:∀id∈refs1 x,lkB h2 id=lkB h id)
 (b:∀v c,R (K v {t:=t,h:=ap nid c h}) (K2 v {t:=t2,h:=ap nid c h2})):R (rH P g fz {t:=t,h:=h} nid x K) (rH P g fz {t:=t2,h:=h2} nid x K2):=by
 simp only[rH,zN d]
 (repeat' split)<;>first|exact h0|exact b _ none|exact b _ (some _)
def efU (nid:Nat):Nm Blk->NO (Nat×Blk)
 |none=>[]
 |some B=>[(nid,B)]
def QV {nid:Nat} {b:Nm Blk}:ap nid b h=aps (efU nid b) h:=by cases b<;>rfl
def Y7 {E:Env ρ} {call:NO Nat->Bool->Nat->NO AV->NO Blk->(AV->NO Blk->Nm ρ)->Nm ρ} {fid:Nat} {path:NO Nat} {nid:Nat} {o:Oper}
 (k:Wu E call) (L:cls E o.op<=2) (hlen:h2.length=h.length) (hx:∀x∈o.op.operands.toList,ev t2 x=ev t x) (hs:1<=cls E o.op->∀x∈o.op.operands.toList,ja h h2 (ev t x)) :
 Loc E o.op nid t h t2 h2 (œ E call fid path true {t:=t,h:=h} nid o) (œ E call fid path true {t:=t2,h:=h2} nid o):=by
 have z:=EQ hx hs
 cases N:ig E {t:=t,h:=h} o.op with
 |false=>exact .no (fun K=>by simp[œ,N]) (fun K=>by simp[œ,z,N])
 |true =>
  rw[N] at z
  have plain:(∀f d tys,o.op≠.call ⟨.value f,d,tys⟩)->Loc E o.op nid t h t2 h2 (œ E call fid path true {t:=t,h:=h} nid o) (œ E call fid path true {t:=t2,h:=h2} nid o):=by
   intro hno
   have C:∀S:St,ig E S o.op=true->∀K,œ E call fid path true S nid o K=opK E.P S nid (Gf E true fid o) o.op K:=fun S Z K=>by
    unfold œ;simp only[Z,Bool.not_true,Bool.and_false,Bool.false_and]
   have Y:HJ o.op=false:=by
    cases J:o.op<;>try rfl
    rename_i c;obtain⟨f,d,tys⟩:=c
    cases f<;>first|rfl|exact absurd J (hno _ _ _)
   have fin:(∃φ:Nm (AV×NO (Nat×Blk)),(∀r,φ=some r->∀p∈r.2,(p.1=nid/\ô E.clone o.op=true)\/(cls E o.op=2/\p.1∈tj E {t:=t,h:=h} o.op)) /\
    opK E.P {t:=t,h:=h} nid (Gf E true fid o) o.op (fun v S=>some (v,S))=φ.map (fun r=>(r.1,({t:=t,h:=aps r.2 h}:St)))/\opK E.P {t:=t2,h:=h2} nid (Gf E true fid o) o.op (fun v S=>some (v,S))=φ.map fun r=>(r.1,({t:=t2,h:=aps r.2 h2}:St))) ->
    Loc E o.op nid t h t2 h2 (œ E call fid path true {t:=t,h:=h} nid o) (œ E call fid path true {t:=t2,h:=h2} nid o):=by
    rintro⟨φ,h1,h2',h3⟩;refine⟨φ,h1,fun K=>?_,fun K=>?_⟩
    ·rw[C _ N,IM]; unfold opR; rw[h2']; cases φ<;>rfl
    ·rw[C _ z,IM]; unfold opR; rw[h3]; cases φ<;>rfl
   apply fin
   by_cases h2c:cls E o.op=2
   ·refine Zh (P:=E.P) (E:=E) (o:=o.op) (nid:=nid) (σ:=AV×St) (σ2:=AV×St) (K:=fun v S=>some (v,S)) (K2:=fun v S=>some (v,S))
     (R:=fun x y=>∃φ:Nm (AV×NO (Nat×Blk)),(∀r,φ=some r->∀p∈r.2,(p.1=nid/\ô E.clone o.op=true)\/(cls E o.op=2/\p.1∈tj E {t:=t,h:=h} o.op))/\x=φ.map (fun r=>(r.1,({t:=t,h:=aps r.2 h}:St)))/\y=φ.map fun r=>(r.1,({t:=t2,h:=aps r.2 h2}:St)))
     ⟨none,by simp,rfl,rfl⟩ h2c Y hlen (fun ty n ps J=>by rw[Gf,J]; rfl) hx (fun x G=>(hs (by omega) x G).one) fun v ups hu=>⟨some (v,ups),fun r I p m=>?_,rfl,rfl⟩
    cases I;rcases hu p m with hu|⟨x,G,hi⟩
    ·exact .inl hu
    ·exact .inr ⟨h2c,(jS (by omega)).2 ⟨x,G,by simp only[refs2,bJ]; exact .inl hi⟩⟩
   ·have hea:Gf E true fid o=false:=by
     unfold Gf
     cases J:o.op<;>first|rfl|(exfalso; apply h2c; rw[J]; rfl)
    rw[hea]
    refine YA (P:=E.P) (E:=E) (o:=o.op) (nid:=nid) (σ:=AV×St) (σ2:=AV×St) (K:=fun v S=>some (v,S)) (K2:=fun v S=>some (v,S))
     (R:=fun x y=>∃φ:Nm (AV×NO (Nat×Blk)),(∀r,φ=some r->∀p∈r.2,(p.1=nid/\ô E.clone o.op=true)\/(cls E o.op=2/\p.1∈tj E {t:=t,h:=h} o.op))/\x=φ.map (fun r=>(r.1,({t:=t,h:=aps r.2 h}:St)))/\y=φ.map fun r=>(r.1,({t:=t2,h:=aps r.2 h2}:St)))
     ⟨none,by simp,rfl,rfl⟩ (by omega) Y hx (fun h1 x G=>(hs (by omega) x G).one) fun v ef hef=>⟨some (v,efU nid ef),fun r I p m=>?_,by rw[QV]; rfl,by rw[QV]; rfl⟩
    cases I
    cases ef with
    |none=>cases m
    |some B =>
     simp only[efU,bK] at m;subst m;exact .inl ⟨rfl,hef rfl⟩
  cases J:o.op with
  |call c =>
   obtain⟨f,d,tys⟩:=c
   cases f with
   |value f =>
    cases f with
    |func g =>
     rw[J] at hx hs L;have hxa:∀x∈d.toList,ev t2 x=ev t x:=fun x G=>hx x (by simp[Op.operands,Call.operands]; exact .inr (by simpa using G))
     have j:∀x∈d.toList,x∈(Op.call ⟨.value (.func g),d,tys⟩).operands.toList:=fun x G=>by simp[Op.operands,Call.operands]; exact .inr (by simpa using G)
     have he:=CN hxa
     cases hc:E.clone g with
     |true =>
      have hcls:cls E (.call ⟨.value (.func g),d,tys⟩)=1:=by simp[cls,hc]
      have C:∀(S:St),ig E S o.op=true->∀K,œ E call fid path true S nid o K=match d.toList with
       |[x]=>rH E.P g (E.eat fid (o.dst.getD 0)) S nid (ev S.t x) K
       |_=>none:=fun S Z K=>by
       unfold œ;simp only[Z,Bool.not_true,Bool.and_false];rw[J];simp only[ev,hc,R0,Bool.and_self];rfl
      generalize hl:d.toList=l at C he hxa j;rcases l with _|⟨x,_|⟨y,l⟩⟩
      ·exact .no (fun K=>C _ N K) (fun K=>C _ z K)
      ·have hsx:=(hs (by omega) x (j x (by simp))).one;have e1:=hxa x (by simp)
       obtain⟨φ,h1,h2',h3⟩:=Vn (P:=E.P) (g:=g) (fz:=E.eat fid (o.dst.getD 0)) (nid:=nid) (t:=t) (t2:=t2) (σ:=AV×St) (σ2:=AV×St) (K:=fun v S=>some (v,S)) (K2:=fun v S=>some (v,S))
        (R:=fun x y=>∃φ:Nm (AV×NO (Nat×Blk)),(∀r,φ=some r->∀p∈r.2,p.1=nid)/\x=φ.map (fun r=>(r.1,({t:=t,h:=aps r.2 h}:St)))/\y=φ.map fun r=>(r.1,{t:=t2,h:=aps r.2 h2}))
        ⟨none,by simp,rfl,rfl⟩ hsx fun v ef=>⟨some (v,efU nid ef),fun r I p m=>by
         cases I
         cases ef with
         |none=>cases m
         |some B=>simp only[efU,bK] at m; rw[m],by rw[QV]; rfl,by rw[QV]; rfl⟩
       refine⟨φ,fun r I p m=>.inl ⟨h1 r I p m,by simpa[ô] using hc⟩,fun K=>?_,fun K=>?_⟩
       ·rw[C _ N];simp only;rw[zu,h2']
        cases φ<;>rfl
       ·rw[C _ z];simp only[e1];rw[zu,h3]
        cases φ<;>rfl
      ·exact .no (fun K=>C _ N K) (fun K=>C _ z K)
     |false =>
      have C:∀(S:St),ig E S o.op=true->∀K,œ E call fid path true S nid o K=call path true g (d.toList.map (ev S.t)) S.h fun v h=>K v {t:=S.t,h:=h}:=fun S Z K=>by
       unfold œ;simp only[Z,Bool.not_true,Bool.and_false];rw[J];simp only[ev,hc,R0,Bool.false_and,List.nil_append,List.append_nil]
      rcases k with k|⟨k,hse,hce⟩
      ·exact .no (fun K=>by rw[C _ N]; exact k _ _ _ _ _ _) (fun K=>by rw[C _ z]; exact k _ _ _ _ _ _)
      cases m:E.pure g with
      |none =>
       have h1c:1<=cls E (.call ⟨.value (.func g),d,tys⟩):=by simp only[cls,hc,m]; cases E.sort g<;>cases E.compact g<;>simp
       have row:∀(f:NO Blk->AV->(AV->NO Blk->Nm ρ)->Nm ρ),(∀S K,ig E S o.op=true->œ E call fid path true S nid o K=match d.toList.map (ev S.t) with|[x]=>f S.h x fun v h=>K v {t:=S.t,h:=h}|_=>none)->cls E (.call ⟨.value (.func g),d,tys⟩)=2 ->
        (∀x,(∀id∈refs1 x,lkB h2 id=lkB h id)->∃φ:Nm (AV×NO (Nat×Blk)),(∀r,φ=some r->∀p∈r.2,p.1∈refs1 x)/\(∀K,f h x K=φ.bind fun r=>K r.1 (aps r.2 h))/\∀K,f h2 x K=φ.bind fun r=>K r.1 (aps r.2 h2)) ->
        Loc E (.call ⟨.value (.func g),d,tys⟩) nid t h t2 h2 (œ E call fid path true {t:=t,h:=h} nid o) (œ E call fid path true {t:=t2,h:=h2} nid o):=by
        intro f O h2c hloc;generalize hl:d.toList=l at O he j;rcases l with _|⟨x,_|⟨y,l⟩⟩
        ·exact .no (fun K=>O _ K N) (fun K=>O _ K z)
        ·obtain⟨φ,q1,q2,q3⟩:=hloc (ev t x) (hs h1c x (j x (by simp))).one;refine⟨φ,fun r I p m=>.inr ⟨h2c,(jS h1c).2 ⟨x,j x (by simp),by simp only[refs2,bJ]; exact .inl (q1 r I p m)⟩⟩,fun K=>?_,fun K=>?_⟩
         ·rw[O _ K N];exact q2 _
         ·rw[O _ K z];simp only[he];exact q3 _
        ·exact .no (fun K=>O _ K N) (fun K=>O _ K z)
       cases V:E.sort g with
       |true =>
        refine row Il (fun S K Z=>(C S Z K).trans (hse g m V path true _ S.h _)) (by simp[cls,hc,m,V]) fun x hx1=>?_;unfold Il
        cases x with
        |own id g =>
         have e3:=hx1 id (by simp[refs1,ü]);simp only[e3]
         cases lkB h id with
         |row ty g' fz xs =>
          cases fz<;>simp only
          ·split
           ·split
            ·split
             ·exact⟨some (_,[(id,_)]),by simp[refs1,ü],fun K=>rfl,fun K=>rfl⟩
             ·exact⟨none,by simp,fun K=>rfl,fun K=>rfl⟩
            ·exact⟨none,by simp,fun K=>rfl,fun K=>rfl⟩
           ·exact⟨none,by simp,fun K=>rfl,fun K=>rfl⟩
          ·exact⟨none,by simp,fun K=>rfl,fun K=>rfl⟩
         |_=>exact⟨none,by simp,fun K=>rfl,fun K=>rfl⟩
        |nils=>exact⟨some (_,[]),by simp,fun K=>rfl,fun K=>rfl⟩
        |_=>exact⟨none,by simp,fun K=>rfl,fun K=>rfl⟩
       |false =>
        cases hco:E.compact g with
        |true =>
         refine row jX (fun S K Z=>(C S Z K).trans (hce g m V hco path true _ S.h _)) (by simp[cls,hc,m,V,hco]) fun x hx1=>?_;unfold jX
         cases x with
         |own id g =>
          have e3:=hx1 id (by simp[refs1,ü]);simp only[e3]
          cases lkB h id with
          |row ty g' fz xs =>
           cases fz<;>simp only
           ·split
            ·split
             ·split
              ·exact⟨some (_,[(id,_)]),by simp[refs1,ü],fun K=>rfl,fun K=>rfl⟩
              ·exact⟨none,by simp,fun K=>rfl,fun K=>rfl⟩
             ·exact⟨none,by simp,fun K=>rfl,fun K=>rfl⟩
            ·exact⟨none,by simp,fun K=>rfl,fun K=>rfl⟩
           ·exact⟨none,by simp,fun K=>rfl,fun K=>rfl⟩
          |_=>exact⟨none,by simp,fun K=>rfl,fun K=>rfl⟩
         |nils=>exact⟨some (_,[]),by simp,fun K=>rfl,fun K=>rfl⟩
         |_=>exact⟨none,by simp,fun K=>rfl,fun K=>rfl⟩
        |false=>simp[cls,hc,m,V,hco] at L
      |some p =>
       have h1c:1<=cls E (.call ⟨.value (.func g),d,tys⟩):=by simp only[cls,hc,m]; cases E.fz g<;>simp
       have hsa:∀a∈d.toList.map (ev t),ja h h2 a:=fun a ha=>by
        obtain⟨x,G,rfl⟩:=dc.1 ha;exact hs h1c x (j x G)
       obtain⟨u,f1,f2,f3⟩:=Jv (cs:=(d.toList.map (ev t)).flatMap gW) hlen fun c hcm id hi=>by
        obtain⟨a,ha,A⟩:=ci.1 hcm;refine(hsa a ha).one id ?_
        cases a<;>first
         |(simp only[gW,bK] at A; subst A; exact hi)
         |(simp only[gW,bK] at A; subst A; cases hi; done)
         |exact ci.2 ⟨c,A,hi⟩
       have f3':∀q∈u,∃x∈d.toList,q.1∈refs2 h (ev t x):=fun q hq=>by
        obtain⟨c,hcm,hi⟩:=f3 q hq;obtain⟨a,ha,A⟩:=ci.1 hcm;obtain⟨x,G,rfl⟩:=dc.1 ha;refine⟨x,G,?_⟩;simp only[refs2,bJ];left;generalize ev t x=a at A
        cases a<;>first
         |(simp only[gW,bK] at A; subst A; exact hi)
         |(simp only[gW,bK] at A; subst A; cases hi; done)
         |exact ci.2 ⟨c,A,hi⟩
       have W:∀(b:Bool) (h':NO Blk),vJ h' p.ts (d.toList.map (ev t))=vJ h p.ts (d.toList.map (ev t))->tg h' ((d.toList.map (ev t)).flatMap gW)=aps u h'->∀(K:AV->NO Blk->Nm ρ),
        Iw b p h' (d.toList.map (ev t)) K=(match vJ h p.ts (d.toList.map (ev t)) with
        |some x=>(p.F x).bind fun y=>match Cs (Ny p.rs y) with
         |true=>some (Ny p.rs y,[])
         |false=>match (d.toList.map (ev t)).all (fun a=>!Ff a) with
          |true=>some (Ny p.rs y,[])
          |false=>match b||!(d.toList.map (ev t)).all T6 with
           |true=>none
           |false=>some (Ny p.rs y,u)
        |none=>none).bind fun r=>K r.1 (aps r.2 h'):=fun b h' ha O K=>by
        unfold Iw Â;rw[ha,O]
        cases vJ h p.ts (d.toList.map (ev t)) with
        |none=>rfl
        |some x =>
         simp only
         cases p.F x with
         |none=>rfl
         |some y =>
          simp only[cP]
          cases Cs (Ny p.rs y) with
          |true=>rfl
          |false=>cases(d.toList.map (ev t)).all (fun a=>!Ff a) with
           |true=>rfl
           |false=>cases b||!(d.toList.map (ev t)).all T6<;>rfl
       refine⟨_,?_,fun K=>(C _ N K).trans ((k g p m path true _ h _).trans (W (true&&!E.fz g) h rfl f1 _)),fun K=>(C _ z K).trans (by simp only[he]; exact(k g p m path true _ h2 _).trans (W (true&&!E.fz g) h2 (Ic hsa) f2 _))⟩;intro r e q hq
       have hcase:r.2=[]\/(E.fz g=true/\r.2=u):=by
        cases hA:vJ h p.ts (d.toList.map (ev t)) with
        |none=>rw[hA] at e; cases e
        |some x =>
         rw[hA] at e;simp only at e
         cases hF:p.F x with
         |none=>rw[hF] at e; cases e
         |some y =>
          rw[hF] at e;simp only[cP] at e
          split at e
          ·cases e; exact .inl rfl
          ·split at e
           ·cases e; exact .inl rfl
           ·split at e
            ·cases e
            ·rename_i hb;cases e;simp only[cX,Bool.or_eq_false_iff,dv] at hb;exact .inr ⟨hb.1,rfl⟩
       rcases hcase with hz|⟨hfz,hz⟩
       ·rw[hz] at hq; cases hq
       ·rw[hz] at hq;obtain⟨x,G,hi⟩:=f3' q hq;exact .inr ⟨by simp[cls,hc,m,hfz],(jS h1c).2 ⟨x,j x G,hi⟩⟩
    |tmp s =>
     rw[J] at hx hs L
     obtain⟨g,hg⟩:∃g,E.hint s=some g:=by
      cases hh:E.hint s with
      |none=>simp[cls,hh] at L
      |some g=>exact⟨g,rfl⟩
     have hpf:(E.pure g).isSome=true/\E.fz g=false:=by
      simp only[cls,hg] at L
      split at L
      ·rename_i hb; simpa using hb
      ·omega
     obtain⟨hpg,hfz⟩:=hpf;obtain⟨p,m⟩:=ee.1 hpg
     have hcls:cls E (.call ⟨.value (.tmp s),d,tys⟩)=1:=by simp[cls,hg,m,hfz]
     have j:∀x∈d.toList,x∈(Op.call ⟨.value (.tmp s),d,tys⟩).operands.toList:=fun x G=>by simp[Op.operands,Call.operands]; exact .inr (by simpa using G)
     have hms:Operand.tmp s∈(Op.call ⟨.value (.tmp s),d,tys⟩).operands.toList:=by simp[Op.operands,Call.operands]
     have he:=CN fun x G=>hx x (j x G)
     have X:HX E t (.call ⟨.value (.tmp s),d,tys⟩)=true:=by
      have h1:=N;unfold ig at h1;rw[J] at h1
      have hb1:Nat.ble 1 (cls E (.call ⟨.value (.tmp s),d,tys⟩))=true:=by rw[hcls]; rfl
      simp only[hb1,bH] at h1;exact h1.2
     simp only[HX,hg] at X
     split at X<;>try (cases X; done)
     rename_i g' U T hfn;simp only[bH,b8] at X;obtain⟨hgg,hna,hnb⟩:=X;have hgg:g'=g:=bM hgg;subst hgg;have hfn2:=(hx _ hms).trans hfn
     have C:∀(S:St),ig E S o.op=true->ev S.t (.tmp s)=.fn (.func g') U T->∀K,œ E call fid path true S nid o K=call path true g' (U++(d.toList.map (ev S.t)++T)) S.h fun v h=>K v {t:=S.t,h:=h}:=fun S Z hSf K=>by
      unfold œ;simp only[Z,Bool.not_true,Bool.and_false];rw[J];simp only[hSf,R0,Bool.and_false]
     rcases k with k|⟨k,hse,hce⟩
     ·exact .no (fun K=>by rw[C _ N hfn]; exact k _ _ _ _ _ _) (fun K=>by rw[C _ z hfn2]; exact k _ _ _ _ _ _)
     have hcap:∀v,(v∈U\/v∈T)->Zl v=true->ja h h2 v:=fun v hv hn id hi=>by
      refine hs (by omega) _ hms id ?_;rw[hfn]
      have e1:Go.Am.refs1 v=TE v:=by cases v<;>first|rfl|cases hn
      simp only[refs2,bJ,ci,e1] at hi ⊢
      have hsub:∀i,i∈TE v->i∈Go.Am.refs1 (.fn (.func g') U T):=fun i hi=>by
       simp only[Go.Am.refs1,bJ,ci];exact hv.imp (fun h=>⟨v,h,hi⟩) fun h=>⟨v,h,hi⟩
      rcases hi with hi|⟨i,hi,q⟩
      ·exact .inl (hsub _ hi)
      ·exact .inr ⟨i,hsub _ hi,q⟩
     have hsa:∀a∈U++(d.toList.map (ev t)++T),ja h h2 a:=fun a ha=>by
      rcases bJ.1 ha with ha|ha
      ·exact hcap a (.inl ha) (hna a ha)
      ·rcases bJ.1 ha with ha|ha
       ·obtain⟨x,G,rfl⟩:=dc.1 ha;exact hs (by omega) x (j x G)
       ·exact hcap a (.inr ha) (hnb a ha)
     have W:∀(h':NO Blk),vJ h' p.ts (U++(d.toList.map (ev t)++T))=vJ h p.ts (U++(d.toList.map (ev t)++T))->∀(K:AV->NO Blk->Nm ρ),
      Iw (true&&!E.fz g') p h' (U++(d.toList.map (ev t)++T)) K=(match vJ h p.ts (U++(d.toList.map (ev t)++T)) with
      |some x=>(p.F x).bind fun y=>match Cs (Ny p.rs y) with
       |true=>some (Ny p.rs y,([]:NO (Nat×Blk)))
       |false=>match (U++(d.toList.map (ev t)++T)).all (fun a=>!Ff a) with
        |true=>some (Ny p.rs y,[])
        |false=>none
      |none=>none).bind fun r=>K r.1 (aps r.2 h'):=fun h' ha K=>by
      unfold Iw Â;rw[ha,hfz]
      cases vJ h p.ts (U++(d.toList.map (ev t)++T)) with
      |none=>rfl
      |some x =>
       simp only
       cases p.F x with
       |none=>rfl
       |some y =>
        simp only[cP]
        cases Cs (Ny p.rs y) with
        |true=>rfl
        |false=>cases(U++(d.toList.map (ev t)++T)).all (fun a=>!Ff a)<;>rfl
     refine⟨_,?_,fun K=>(C _ N hfn K).trans ((k g' p m path true _ h _).trans (W h rfl _)),fun K=>(C _ z hfn2 K).trans (by simp only[he]; exact(k g' p m path true _ h2 _).trans (W h2 (Ic hsa) _))⟩;intro r e q hq;exfalso
     cases hA:vJ h p.ts (U++(d.toList.map (ev t)++T)) with
     |none=>rw[hA] at e; cases e
     |some x =>
      rw[hA] at e;simp only at e
      cases hF:p.F x with
      |none=>rw[hF] at e; cases e
      |some y =>
       rw[hF] at e;simp only[cP] at e
       split at e
       ·cases e; cases hq
       ·split at e<;>cases e
        cases hq
    |_=>rw[J] at L; simp[cls] at L
   |_=>exact J▸plain fun _ _ _ O=>by rw[J] at O; cases O
  |_=>exact J▸plain fun _ _ _ O=>by rw[J] at O; cases O
def Y3 {l:NO Operand} (c:∀s∈Gx l,lk t2 s=lk t s):∀x∈l,ev t2 x=ev t x:=by
 induction l with
 |nil=>intro x b; cases b
 |cons y l d =>
  intro x b;rcases bL.1 b with rfl|b
  ·cases x with
   |tmp i=>exact c i (by simp[Gx])
   |_=>rfl
  ·refine d (fun s e=>c s ?_) x b
   cases y<;>simp[Gx,e]
def Pc:∀(t:NO AV) {d c:Nat} (v b:AV),d≠c->upd (upd t d v) c b=upd (upd t c b) d v
 |[],_,_,_,_,_=>rfl
 |_::_,0,0,_,_,h=>absurd rfl h
 |_::_,0,_+1,_,_,_=>rfl
 |_::_,_+1,0,_,_,_=>rfl
 |x::t,d+1,c+1,v,b,h=>by simp only[upd]; rw[Pc t v b (by omega)]
def Ki:∀(t:NO Blk) {d c:Nat} (v b:Blk),d≠c->å (å t d v) c b=å (å t c b) d v
 |[],_,_,_,_,_=>rfl
 |_::_,0,0,_,_,h=>absurd rfl h
 |_::_,0,_+1,_,_,_=>rfl
 |_::_,_+1,0,_,_,_=>rfl
 |x::t,d+1,c+1,v,b,h=>by simp only[å]; rw[Ki t v b (by omega)]
def Co {c b:Nm Nat} (hd:∀x,c=some x->b≠some x) (e d:AV):ï (ï t c e) b d=ï (ï t b d) c e:=by
 cases c with
 |none=>rfl
 |some x=>cases b with
  |none=>rfl
  |some y=>exact Pc t e d fun h=>hd x rfl (by rw[h])
def pW {d:Nm Nat} {s:Nat} (hd:d≠some s) (v:AV):lk (ï t d v) s=lk t s:=by
 cases d with
 |none=>rfl
 |some x =>
  simp only[ï,Qi];rw[if_neg];rintro⟨rfl,_⟩;exact hd rfl
def QU:∀{u v:NO (Nat×Blk)} {h:NO Blk},(∀p∈u,∀q∈v,p.1≠q.1)->aps v (aps u h)=aps u (aps v h)
 |[],_,_,_=>rfl
 |p::u,v,h,c=>by
  show aps v (aps u (å h p.1 p.2))=aps u (å (aps v h) p.1 p.2);rw[QU fun q b=>c q (by simp[b])];congr 1
  have:∀(v:NO (Nat×Blk)) (h:NO Blk),(∀q∈v,p.1≠q.1)->aps v (å h p.1 p.2)=å (aps v h) p.1 p.2:=by
   intro v
   induction v with
   |nil=>intro h _; rfl
   |cons q v d =>
    intro h b;show aps v (å (å h p.1 p.2) q.1 q.2)=å (aps v (å h q.1 q.2)) p.1 p.2;rw[Ki _ _ _ (b q (by simp)),d _ fun r e=>b r (by simp[e])]
  exact this v h (c p (by simp))
def ĺ (all:NO Oper) (o:Oper) (t:NO AV):Nm Bool :=
 match o.guard with
 |none=>some true
 |some (j,want)=>match lk t (jR all j) with
  |.bool b=>some (b==want)
  |.und=>some false
  |_=>none
def pO (E:Env ρ) (all:NO Oper) (o:Oper) (S:St):NO Nat :=
 match ĺ all o S.t with
 |some true=>tj E S o.op
 |_=>[]
def pE (E:Env ρ) (call:NO Nat->Bool->Nat->NO AV->NO Blk->(AV->NO Blk->Nm ρ)->Nm ρ) (fid:Nat) (path:NO Nat) (all:NO Oper) (b:NO Nat) (acc:NO (Nat×NO Nat)) (i nid:Nat) (o:Oper) (S:St) (K:NO Nat->St->Nm ρ):Nm ρ :=
 match ĺ all o S.t==some true&&!chk E all b acc i (tj E S o.op) with
 |true=>none
 |false=>kj E call fid path true all i nid o S (K (pO E all o S))
def TW {E:Env ρ} {call:NO Nat->Bool->Nat->NO AV->NO Blk->(AV->NO Blk->Nm ρ)->Nm ρ} {fid:Nat} {path:NO Nat} {all:NO Oper} {c:NO Nat} {o:Oper} {os:NO Oper} {i nid:Nat} {acc:NO (Nat×NO Nat)} {S:St} {K:St->Nm ρ} :
 TX E call fid path all c (o::os) i nid acc S K=pE E call fid path all c acc i nid o S fun F m=>TX E call fid path all c os (i+1) (bif ô E.clone o.op then nid+1 else nid) ((i,F)::acc) m K:=by
 have k:∀d b,lk S.t d=.bool b->({t:=upd S.t d (.bool b),h:=S.h}:St)=S:=fun d b hb=>by rw[<-hb,vN]
 have e:∀d b,lk S.t d=.bool b->upd S.t d (.bool b)=S.t:=fun d b hb=>by rw[<-hb,vN]
 simp only[TX,pE,kj,pO,ĺ]
 cases o.guard with
 |none=>cases chk E all c acc i (tj E S o.op)<;>rfl
 |some g =>
  obtain⟨j,l⟩:=g;simp only
  cases hb:lk S.t (jR all j)<;>try rfl
  rename_i b;have h1:=k _ b hb;have h2:=e _ b hb
  cases b<;>cases l<;>simp only[h1,h2]<;>first
   |rfl
   |(cases chk E all c acc i (tj E S o.op)<;>rfl)
def xM {E:Env ρ} {o:Op} (i:∀x∈o.operands.toList,ev t2 x=ev t x) (j:1<=cls E o->∀x∈o.operands.toList,ja h h2 (ev t x)):tj E {t:=t2,h:=h2} o=tj E {t:=t,h:=h} o:=by
 unfold tj
 split
 ·rename_i k;have c:1<=cls E o:=cD k
  have:∀l:NO Operand,(∀x∈l,x∈o.operands.toList)->(l.flatMap fun x=>refs2 h2 (ev t2 x))=l.flatMap fun x=>refs2 h (ev t x):=by
   intro l
   induction l with
   |nil=>intro _; rfl
   |cons x l d =>
    intro b;simp only[cj];rw[i x (b x (by simp)),(j c x (b x (by simp))).refs,d fun y e=>b y (by simp[e])]
  exact this _ fun _ h=>h
 ·rfl
def zV {all:NO Oper} {o:Oper} (b:∀s∈Ś all o,lk t2 s=lk t s):∀x∈o.op.operands.toList,ev t2 x=ev t x:=Y3 fun s c=>b s (by simp only[Ś,bJ]; exact .inr c)
def Ŭ {all:NO Oper} {o:Oper} (c:∀s∈Ś all o,lk t2 s=lk t s):ĺ all o t2=ĺ all o t:=by
 unfold ĺ
 cases d:o.guard with
 |none=>rfl
 |some g =>
  obtain⟨j,b⟩:=g;simp only;rw[c _ (by simp[Ś,d])]
def WJ {E:Env ρ} {o:Op} (d:1<=cls E o) (b:ig E {t:=t,h:=h} o=true):∀id∈tj E {t:=t,h:=h} o,lkB h id≠.dead:=fun id hi hd=>by
 obtain⟨x,e,hi⟩:=(jS d).1 hi;unfold ig at b;have c:Nat.ble 1 (cls E o)=true:=Nat.ble_eq_true_of_le d;simp only[c,Bool.and_eq_true,List.all_eq_true] at b;have:=b.1 x e id hi;rw[hd] at this;cases this
def BJ {E:Env ρ} {call:NO Nat->Bool->Nat->NO AV->NO Blk->(AV->NO Blk->Nm ρ)->Nm ρ} {fid:Nat} {path:NO Nat} {all:NO Oper} {i nid:Nat} {o:Oper} (I:ρ)
 (A:Wu E call) (C:cls E o.op<=2) (q:h2.length=h.length) (F:∀s∈Ś all o,lk t2 s=lk t s)
 (L:ĺ all o t=some true->1<=cls E o.op->∀x∈o.op.operands.toList,ja h h2 (ev t x)) :
 ∃φ:Nm (AV×NO (Nat×Blk)),(∀r,φ=some r->∀p∈r.2,(p.1=nid/\ô E.clone o.op=true)\/(cls E o.op=2/\p.1∈pO E all o {t:=t,h:=h})) /\
  (∀r,φ=some r->∀id∈pO E all o {t:=t,h:=h},lkB h id≠.dead) /\
  (∀K,kj E call fid path true all i nid o {t:=t,h:=h} K=φ.bind fun r=>K {t:=ï t o.dst r.1,h:=aps r.2 h}) /\
  ∀K,kj E call fid path true all i nid o {t:=t2,h:=h2} K=φ.bind fun r=>K {t:=ï t2 o.dst r.1,h:=aps r.2 h2}:=by
 have J:=zV (t:=t) (t2:=t2) (o:=o) F;have d:=Ŭ (t:=t) (t2:=t2) (o:=o) F
 cases e:ĺ all o t with
 |none =>
  rw[e] at d
  have:∀(S:St),ĺ all o S.t=none->∀K,kj E call fid path true all i nid o S K=none:=fun S c K=>by
   unfold ĺ at c;unfold kj
   cases l:o.guard with
   |none=>rw[l] at c; cases c
   |some g =>
    obtain⟨j,k⟩:=g;rw[l] at c;simp only at c ⊢
    cases hb:lk S.t (jR all j)<;>rw[hb] at c<;>first|rfl|cases c
  exact⟨none,by simp,by simp,fun K=>this _ e K,fun K=>this _ d K⟩
 |some b =>
  cases b with
  |false =>
   rw[e] at d
   have:∀(S:St),ĺ all o S.t=some false->∀K,kj E call fid path true all i nid o S K=K {t:=ï S.t o.dst .und,h:=S.h}:=fun S c K=>by
    unfold ĺ at c;unfold kj
    cases l:o.guard with
    |none=>rw[l] at c; cases c
    |some g =>
     obtain⟨j,k⟩:=g;rw[l] at c;simp only at c ⊢
     cases hb:lk S.t (jR all j)<;>rw[hb] at c<;>first|rfl|(cases c; done)|skip
     simp only[Option.some.injEq] at c ⊢;rw[c]
   refine⟨some (.und,[]),?_,?_,fun K=>this _ e K,fun K=>this _ d K⟩
   ·intro r m p B;cases m;cases B
   ·intro r m id hi;simp only[pO,e] at hi;cases hi
  |true =>
   rw[e] at d
   have n:∀(S:St),ĺ all o S.t=some true->∀K,kj E call fid path true all i nid o S K=œ E call fid (path++[i]) true S nid o fun v S=>K {t:=ï S.t o.dst v,h:=S.h}:=fun S c K=>by
    unfold ĺ at c;unfold kj
    cases l:o.guard with
    |none=>rfl
    |some g =>
     obtain⟨j,k⟩:=g;rw[l] at c;simp only at c ⊢
     cases hb:lk S.t (jR all j)<;>rw[hb] at c<;>first|(cases c; done)|skip
     simp only[Option.some.injEq] at c ⊢;rw[c]
   obtain⟨φ,h1,y,O⟩:=Y7 (fid:=fid) (path:=path++[i]) (nid:=nid) A C q J (L e)
   have u:pO E all o {t:=t,h:=h}=tj E {t:=t,h:=h} o.op:=by simp only[pO,e]
   refine⟨φ,fun r m p B=>?_,fun r m id hi=>?_,fun K=>by rw[n _ e,y],fun K=>by rw[n _ d,O]⟩
   ·rw[u]; exact h1 r m p B
   ·rw[u] at hi
    by_cases N:1<=cls E o.op
    ·refine WJ N ?_ id hi
     cases z:ig E {t:=t,h:=h} o.op with
     |true=>rfl
     |false =>
      exfalso;have G:=y fun v S=>some I;rw[m] at G;simp[œ,z] at G
    ·rw[xL (by omega)] at hi;cases hi
def rE:∀{l m:NO Nat},disj l m=true↔∀x∈l,x∉m
 |[],m=>by simp[disj]
 |x::l,m=>by
  simp only[disj,bH,cF,dz,bL,forall_eq_or_imp,rE (l:=l)];refine and_congr_left fun _=>⟨fun h c=>h x c (Nat.beq_refl x),fun h y b d=>?_⟩;have:=bM d;subst this;exact h b
structure Yt (E:Env ρ) (all:NO Oper) (bef:NO Nat) (ia ib:Nat) (a b:Oper):Prop where
 ha:all[ia]?=some a
 hb:all[ib]?=some b
 a3:cls E a.op<=2
 b3:cls E b.op<=2\/cls E a.op=0
 rb:∀s∈Ś all b,a.dst≠some s
 ra:∀s∈Ś all a,b.dst≠some s
 dd:∀x,a.dst=some x->b.dst≠some x
 bab:(bef.getD ib 0).testBit ia=false
 bba:(bef.getD ia 0).testBit ib=false
def Vl (E:Env ρ) (o:Op):cls E o<=3:=by
 cases o with
 |call c =>
  obtain⟨f,d,tys⟩:=c
  cases f with
  |value f=>cases f<;>simp only[cls]<;>(repeat' split)<;>omega
  |builtin b=>cases b<;>simp[cls]
  |_=>simp[cls]
 |_=>simp[cls]
def OE {E:Env ρ} {all:NO Oper} {c:NO Nat} {ia ib:Nat} {a b:Oper} (e:XP E all a b=false) (ha:all[ia]?=some a) (hb:all[ib]?=some b) (h1:(c.getD ib 0).testBit ia=false) (h2:(c.getD ia 0).testBit ib=false):Yt E all c ia ib a b:=by
 unfold XP at e;simp only[Bool.or_eq_false_iff,beq_eq_false_iff_ne] at e;obtain⟨⟨⟨⟨_,z,j⟩,m⟩,l⟩,k⟩:=e;have y:=Vl E a.op;have v:=Vl E b.op
 have i:cls E b.op<=2\/cls E a.op=0:=by
  by_cases u:cls E b.op=3
  ·rw[u] at j;right
   by_cases q:1<=cls E a.op
   ·rw[fD q] at j; cases j
   ·omega
  ·left; omega
 refine⟨ha,hb,by omega,i,fun s d hd=>?_,fun s d hd=>?_,fun x o n=>?_,h1,h2⟩
 ·rw[hd] at m;simp[Xq,d] at m
 ·rw[hd] at l;simp[Xq,d] at l
 ·rw[o,n] at k;simp at k
def wa {E:Env ρ} {all:NO Oper} {c:NO Nat} {j i:Nat} {a b:Oper} {e k:NO Nat} (d:wc E all c j i e k=true) (ha:all[j]?=some a) (hb:all[i]?=some b) (h1:(c.getD j 0).testBit i=false) (h2:(c.getD i 0).testBit j=false)
 (l:uO E a.op b.op=true):∀x∈e,x∉k:=by
 unfold wc at d;simp only[ha,hb,l,h1,h2,Bool.not_true,Bool.false_or] at d;exact rE.1 d
def OG {E:Env ρ} {a b:Op}:uO E a b=uO E b a:=by
 unfold uO; cases cls E a==2<;>cases cls E b==2<;>cases Nat.ble 1 (cls E a)<;>cases Nat.ble 1 (cls E b)<;>rfl
def NX {E:Env ρ} {all:NO Oper} {d:NO Nat} {j i:Nat} {e k:NO Nat} (c:wc E all d j i e k=true):wc E all d i j k e=true:=by
 unfold wc at c ⊢
 cases ha:all[j]? with
 |none=>rw[ha] at c; cases c
 |some a=>cases hb:all[i]? with
  |none=>rw[ha,hb] at c; cases c
  |some b =>
   rw[ha,hb] at c;simp only[Bool.or_eq_true,cF] at c ⊢;rw[OG];rcases c with c|c|c|c
   ·exact .inl c
   ·exact .inr (.inr (.inl c))
   ·exact .inr (.inl c)
   ·exact .inr (.inr (.inr (rE.2 fun x m l=>rE.1 c x l m)))
def kg {E:Env ρ} {a b:Op}:uO E a b=true↔(cls E a=2/\1<=cls E b)\/(1<=cls E a/\cls E b=2):=by
 unfold uO;simp only[Bool.or_eq_true,Bool.and_eq_true,beq_iff_eq,Nat.ble_eq]
def jY {E:Env ρ} {all:NO Oper} {b:NO Nat} {acc:NO (Nat×NO Nat)} {p:Nat×NO Nat} {i:Nat} {F:NO Nat}:chk E all b (p::acc) i F=(wc E all b p.1 i p.2 F&&chk E all b acc i F):=by
 simp[chk]
def yI {E:Env ρ} {all:NO Oper} {c:NO Nat} {j i:Nat} {a b:Oper} {d:NO Nat} (ha:all[j]?=some a) (hb:all[i]?=some b):wc E all c j i d []=true:=by
 unfold wc;simp only[ha,hb,Bool.or_eq_true];exact .inr (.inr (.inr (rE.2 fun x _=>by simp)))
def Ey {E:Env ρ} {all:NO Oper} {o:Oper} (c:∀s∈Ś all o,lk t2 s=lk t s) (e:ĺ all o t=some true->1<=cls E o.op->∀x∈o.op.operands.toList,ja h h2 (ev t x)):pO E all o {t:=t2,h:=h2}=pO E all o {t:=t,h:=h}:=by
 unfold pO;simp only[Ŭ (t:=t) (t2:=t2) c]
 cases d:ĺ all o t with
 |none=>rfl
 |some b=>cases b with
  |false=>rfl
  |true=>exact xM (zV c) (e d)
def Su {E:Env ρ} {o:Op} (h:cls E o=0):ô E.clone o=false:=by
 cases o with
 |call c =>
  obtain⟨f,d,tys⟩:=c
  cases f with
  |value f=>cases f<;>simp only[cls] at h<;>(repeat' split at h)<;>first|omega|rfl|(cases h; done)
  |builtin b=>cases b<;>simp[cls] at h
  |_=>simp[cls] at h
 |_=>first|rfl|(simp[cls] at h; done)
def Vm {E:Env ρ} {o:Op} (h:cls E o=0):HJ o=false:=by
 cases o with
 |call c =>
  obtain⟨f,b,tys⟩:=c
  cases f with
  |value f=>cases f<;>simp only[cls] at h<;>(repeat' split at h)<;>first|omega|(cases h; done)
  |_=>rfl
 |_=>rfl
def W0 {E:Env ρ} {call:NO Nat->Bool->Nat->NO AV->NO Blk->(AV->NO Blk->Nm ρ)->Nm ρ} {fid:Nat} {path:NO Nat} {nid:Nat} {o:Oper} (d:cls E o.op=0) :
 ∃φ:Nm AV,∀(t2:NO AV) (h2:NO Blk),(∀x∈o.op.operands.toList,ev t2 x=ev t x)->∀K,œ E call fid path true {t:=t2,h:=h2} nid o K=φ.bind fun v=>K v {t:=t2,h:=h2}:=by
 have b:=Vm d;have k:=Su d
 have q:∀S:St,∀K,œ E call fid path true S nid o K=opK E.P S nid false o.op K:=fun S K=>by
  have n:ig E S o.op=true:=by
   unfold ig
   have:Nat.ble 1 (cls E o.op)=false:=by rw[d]; rfl
   rw[this]
  have j:Gf E true fid o=false:=by
   unfold Gf
   cases s:o.op<;>first|rfl|(rw[s] at d; simp[cls] at d; done)
  unfold œ;simp only[n,j,Bool.not_true,Bool.and_false]
  cases i:o.op with
  |call c =>
   obtain⟨f,l,tys⟩:=c;rw[i] at b
   cases f with
   |value f=>cases b
   |_=>rfl
  |_=>rfl
 refine⟨opK E.P {t:=t,h:=[]} nid false o.op fun v _=>some v,fun t2 h2 m K=>?_⟩;rw[q,IM]
 have:=YA (P:=E.P) (E:=E) (o:=o.op) (nid:=nid) (σ:=AV) (σ2:=AV×St) (t:=t) (t2:=t2) (h:=[]) (h2:=h2) (K:=fun v _=>some v) (K2:=fun v S=>some (v,S)) (R:=fun x y=>y=x.map fun v=>(v,({t:=t2,h:=h2}:St)))
  rfl (by omega) b m (fun h1=>by omega) fun v u e=>by
   cases u with
   |none=>rfl
   |some B=>rw[k] at e; exact absurd (e rfl) (by simp)
 unfold opR;rw[this]
 cases opK E.P {t:=t,h:=[]} nid false o.op (fun v _=>some v)<;>rfl
def Tp {E:Env ρ} {call:NO Nat->Bool->Nat->NO AV->NO Blk->(AV->NO Blk->Nm ρ)->Nm ρ} {fid:Nat} {path:NO Nat} {all:NO Oper} {i nid:Nat} {o:Oper} (n:cls E o.op=0) (t:NO AV) :
 ∃φ:Nm AV,∀(t2:NO AV) (h2:NO Blk),(∀s∈Ś all o,lk t2 s=lk t s)->∀K,kj E call fid path true all i nid o {t:=t2,h:=h2} K=φ.bind fun v=>K {t:=ï t2 o.dst v,h:=h2}:=by
 obtain⟨φ,l⟩:=W0 (call:=call) (fid:=fid) (path:=path++[i]) (nid:=nid) (t:=t) n
 cases m:ĺ all o t with
 |none =>
  refine⟨none,fun t2 h2 k K=>?_⟩;have c:=(Ŭ (t:=t) (t2:=t2) k).trans m;unfold ĺ at c;unfold kj
  cases e:o.guard with
  |none=>rw[e] at c; cases c
  |some g =>
   obtain⟨j,d⟩:=g;rw[e] at c;simp only at c ⊢
   cases hb:lk t2 (jR all j)<;>rw[hb] at c<;>first|rfl|cases c
 |some b =>
  cases b with
  |false =>
   refine⟨some .und,fun t2 h2 k K=>?_⟩;have c:=(Ŭ (t:=t) (t2:=t2) k).trans m;unfold ĺ at c;unfold kj
   cases e:o.guard with
   |none=>rw[e] at c; cases c
   |some g =>
    obtain⟨j,d⟩:=g;rw[e] at c;simp only at c ⊢
    cases hb:lk t2 (jR all j)<;>rw[hb] at c<;>first|rfl|(cases c; done)|skip
    simp only[Option.some.injEq] at c ⊢;rw[c];rfl
  |true =>
   refine⟨φ,fun t2 h2 k K=>?_⟩;have c:=(Ŭ (t:=t) (t2:=t2) k).trans m;have q:=l t2 h2 (zV k);unfold ĺ at c;unfold kj
   cases e:o.guard with
   |none=>exact q _
   |some g =>
    obtain⟨j,d⟩:=g;rw[e] at c;simp only at c ⊢
    cases hb:lk t2 (jR all j)<;>rw[hb] at c<;>first|(cases c; done)|skip
    simp only[Option.some.injEq] at c ⊢;rw[c];exact q _
def Tx {E:Env ρ} {call:NO Nat->Bool->Nat->NO AV->NO Blk->(AV->NO Blk->Nm ρ)->Nm ρ} {fid:Nat} {path:NO Nat} {nid:Nat} {o:Oper} (d:cls E o.op=3) (k:∀x∈o.op.operands.toList,ev t2 x=ev t x) (K:AV->St->Nm ρ) :
 œ E call fid path true {t:=t2,h:=h} nid o K=œ E call fid path true {t:=t,h:=h} nid o fun v S=>K v {t:=t2,h:=S.h}:=by
 have m:ig E {t:=t2,h:=h} o.op=ig E {t:=t,h:=h} o.op:=EQ k fun _ _ _ _ _=>rfl;unfold œ;rw[m]
 cases s:o.op with
 |call c =>
  obtain⟨f,e,tys⟩:=c;rw[s] at k d
  cases f with
  |value f =>
   have z:ev t2 f=ev t f:=k f (by simp[Op.operands,Call.operands]);have i:∀x∈e.toList,ev t2 x=ev t x:=fun x u=>k x (by simp[Op.operands,Call.operands]; exact .inr (by simpa using u));have A:=CN i;simp only[z,A]
   cases j:ev t f with
   |fn g fa fb =>
    cases g with
    |func g =>
     simp only
     cases n:E.clone g&&R0 f with
     |false=>rfl
     |true =>
      exfalso;rw[bH] at n
      cases f with
      |func g' =>
       have:g'=g:=by simp only[ev] at j; cases j; rfl
       subst this;simp[cls,n.1] at d
      |_=>simp[R0] at n
    |_=>rfl
   |yld =>
    simp only;rcases q:e.toList with _|⟨x,_|⟨y,l⟩⟩
    ·rfl
    ·simp only; rw[i x (by rw[q]; simp)]
    ·rfl
   |_=>rfl
  |builtin b=>cases b<;>simp[cls] at d
  |_=>rfl
 |_=>rw[s] at d; simp[cls] at d
def Rc {E:Env ρ} {call:NO Nat->Bool->Nat->NO AV->NO Blk->(AV->NO Blk->Nm ρ)->Nm ρ} {fid:Nat} {path:NO Nat} {all:NO Oper} {i nid:Nat} {o:Oper} (m:cls E o.op=3) (e:∀s∈Ś all o,lk t2 s=lk t s) :
 ∃Ψ:(AV->NO Blk->Nm ρ)->Nm ρ,(∀K,kj E call fid path true all i nid o {t:=t,h:=h} K=Ψ fun v h'=>K {t:=ï t o.dst v,h:=h'})/\∀K,kj E call fid path true all i nid o {t:=t2,h:=h} K=Ψ fun v h'=>K {t:=ï t2 o.dst v,h:=h'}:=by
 have d:∀t':NO AV,(∀s∈Ś all o,lk t' s=lk t s)->∀K,kj E call fid path true all i nid o {t:=t',h:=h} K=(fun k:AV->NO Blk->Nm ρ=>match ĺ all o t with
  |none=>none
  |some false=>k .und h
  |some true=>œ E call fid (path++[i]) true {t:=t,h:=h} nid o fun v S=>k v S.h) fun v h'=>K {t:=ï t' o.dst v,h:=h'}:=fun t' e K=>by
  have l:=Ŭ (t:=t) (t2:=t') (o:=o) e;have n:=Tx (call:=call) (fid:=fid) (path:=path++[i]) (nid:=nid) (h:=h) m (zV e);rw[<-l];unfold ĺ kj
  cases u:o.guard with
  |none=>exact n _
  |some g =>
   obtain⟨j,c⟩:=g;simp only
   cases hb:lk t' (jR all j) with
   |bool b =>
    simp only
    cases q:b==c with
    |true=>exact n _
    |false=>rfl
   |_=>rfl
 exact⟨fun k:AV->NO Blk->Nm ρ=>match ĺ all o t with
  |none=>none
  |some false=>k .und h
  |some true=>œ E call fid (path++[i]) true {t:=t,h:=h} nid o fun v S=>k v S.h,d t fun _ _=>rfl,d t2 e⟩
def MD {E:Env ρ} {all:NO Oper} {o:Oper} (b:cls E o.op=0) (S:St):pO E all o S=[]:=by
 unfold pO
 split
 ·exact xL b
 ·rfl
def swap0 {E:Env ρ} {call:NO Nat->Bool->Nat->NO AV->NO Blk->(AV->NO Blk->Nm ρ)->Nm ρ} {fid:Nat} {path:NO Nat} {all:NO Oper} {d:NO Nat} {acc:NO (Nat×NO Nat)} {ia na ib nb:Nat} {a b:Oper} {K:NO Nat->NO Nat->St->Nm ρ} {r:ρ}
 (q:Yt E all d ia ib a b) (ha:cls E a.op=0) (hb:cls E b.op=3)
 (e:pE E call fid path all d acc ia na a {t:=t,h:=h} (fun y S=>pE E call fid path all d ((ia,y)::acc) ib nb b S (K y))=some r) :
 pE E call fid path all d acc ib nb b {t:=t,h:=h} (fun I S=>pE E call fid path all d ((ib,I)::acc) ia na a S fun y=>K y I)=some r:=by
 obtain⟨φ,n⟩:=Tp (call:=call) (fid:=fid) (path:=path) (all:=all) (i:=ia) (nid:=na) ha t;unfold pE at e
 split at e<;>try (cases e; done)
 rename_i k;rw[n t h fun _ _=>rfl] at e;obtain⟨u,J,m⟩:=ē e;simp only at m
 split at m<;>try (cases m; done)
 rename_i c;have j:∀s∈Ś all b,lk (ï t a.dst u) s=lk t s:=fun s C=>pW (q.rb s C) _;obtain⟨Ψ,N,L⟩:=Rc (call:=call) (fid:=fid) (path:=path) (all:=all) (i:=ib) (nid:=nb) (h:=h) hb j;rw[L] at m;have A:ĺ all b (ï t a.dst u)=ĺ all b t:=Ŭ j;have F:tj E {t:=ï t a.dst u,h:=h} b.op=tj E {t:=t,h:=h} b.op:=xM (zV j) fun _ _ _ _ _=>rfl;have G:pO E all b {t:=ï t a.dst u,h:=h}=pO E all b {t:=t,h:=h}:=Ey j fun _ _ _ _ _ _=>rfl;unfold pE
 split
 ·rename_i z;exfalso;rw[F,A,jY] at c
  cases R:ĺ all b t==some true<;>rw[R] at z c<;>simp only[Bool.false_and,cX,cF,dv,bW] at z c
  rw[z,Bool.and_false] at c;cases c
 ·rw[N];rw[<-m];congr 1;funext v h';have o:∀s∈Ś all a,lk (ï t b.dst v) s=lk t s:=fun s C=>pW (q.ra s C) _;have B:ĺ all a (ï t b.dst v)=ĺ all a t:=Ŭ o
  have l:¬((ĺ all a (ï t b.dst v)==some true&&!chk E all d ((ib,pO E all b {t:=t,h:=h})::acc) ia (tj E {t:=ï t b.dst v,h:=h'} a.op))=true):=by
   rw[B,xL ha,jY,yI q.hb q.ha,cX];rw[xL ha] at k;exact dA.1 k
  dsimp only
  split
  ·rename_i O; exact absurd O l
  ·rw[n _ _ o,J,cP,MD ha,MD ha,G,Co q.dd]
def swap {E:Env ρ} {call:NO Nat->Bool->Nat->NO AV->NO Blk->(AV->NO Blk->Nm ρ)->Nm ρ} {fid:Nat} {path:NO Nat} {all:NO Oper} {n:NO Nat} {acc:NO (Nat×NO Nat)} {ia na ib nb:Nat} {a b:Oper} {K:NO Nat->NO Nat->St->Nm ρ} {r:ρ}
 (hpe:Wu E call) (k:Yt E all n ia ib a b) (hbd:ô E.clone b.op=true->lkB h nb=.dead) (hn:ô E.clone a.op=true->ô E.clone b.op=true->na≠nb)
 (hfar1:ô E.clone a.op=true->∀x∈b.op.operands.toList,na∉refs1 (ev t x))
 (hfar:1<=cls E b.op->ô E.clone a.op=true->(∀p∈acc,∀c,all[p.1]?=some c->uO E c.op b.op=true->(n.getD ib 0).testBit p.1=false->(n.getD p.1 0).testBit ib=false->∀x∈b.op.operands.toList,∀id∈refs1 (ev t x),id∉p.2)->∀x∈b.op.operands.toList,na∉refs2 h (ev t x))
 (e:pE E call fid path all n acc ia na a {t:=t,h:=h} (fun Fa S=>pE E call fid path all n ((ia,Fa)::acc) ib nb b S (K Fa))=some r) :
 pE E call fid path all n acc ib nb b {t:=t,h:=h} (fun Fb S=>pE E call fid path all n ((ib,Fb)::acc) ia na a S fun Fa=>K Fa Fb)=some r:=by
 by_cases hb3:cls E b.op<=2
 case neg =>
  have:=Vl E b.op;exact swap0 k (k.b3.resolve_left hb3) (by omega) e
 -- what a does
 obtain⟨φa,a0,a1,a2,_⟩:=BJ (t:=t) (t2:=t) (h:=h) (h2:=h) (call:=call) (fid:=fid) (path:=path) (i:=ia) (nid:=na) (all:=all) r hpe k.a3 rfl (fun _ _=>rfl) (fun _ _ _ _ _ _=>rfl);unfold pE at e
 split at e<;>try (cases e; done)
 rename_i J;rw[a2] at e;obtain⟨⟨Z,V⟩,q1,q2⟩:=ē e;simp only at q2
 split at q2<;>try (cases q2; done)
 rename_i d;have Y:=a1 _ q1;have hea:=a0 _ q1;simp only at hea
 -- b looks at the same
 have C:∀s∈Ś all b,lk (ï t a.dst Z) s=lk t s:=fun s hs=>pW (k.rb s hs) _;have htb':∀s∈Ś all b,lk t s=lk (ï t a.dst Z) s:=fun s hs=>(C s hs).symm;have N:=zV C;have hwb:ĺ all b (ï t a.dst Z)=ĺ all b t:=Ŭ C
 have B:1<=cls E b.op->ĺ all b t=some true->chk E all n ((ia,pO E all a {t:=t,h:=h})::acc) ib (tj E {t:=ï t a.dst Z,h:=aps V h} b.op)=true:=fun _ j=>by
  rw[hwb,j] at d;simpa using d
 have hone:ĺ all b t=some true->1<=cls E b.op->∀x∈b.op.operands.toList,∀id∈refs1 (ev t x),lkB (aps V h) id=lkB h id:=fun j h1 x v id hi=>by
  refine Ie fun p U m=>?_;rcases hea p U with⟨h2,o⟩|⟨h2,o⟩
  ·exact hfar1 o x v (by rw[<-h2,m]; exact hi)
  ·have F:=B h1 j;rw[jY,bH] at F;refine wa F.1 k.ha k.hb k.bba k.bab (kg.2 (.inl ⟨h2,h1⟩)) p.1 o ?_;rw[m];refine(jS h1).2 ⟨x,v,?_⟩;rw[N x v];simp only[refs2,bJ];exact .inl hi
 have hrefs:ĺ all b t=some true->1<=cls E b.op->∀x∈b.op.operands.toList,refs2 (aps V h) (ev t x)=refs2 h (ev t x):=fun j h1 x v=>by
  have:∀(l:NO Nat),(∀id∈l,lkB (aps V h) id=lkB h id)->(l.flatMap fun id=>(EV (lkB (aps V h) id)).flatMap ü)=l.flatMap fun id=>(EV (lkB h id)).flatMap ü:=by
   intro l
   induction l with
   |nil=>intro _; rfl
   |cons y l ih=>intro hl; simp only[cj]; rw[hl y (by simp),ih fun id hi=>hl id (by simp[hi])]
  simp only[refs2];rw[this _ (hone j h1 x v)]
 have G:ĺ all b t=some true->1<=cls E b.op->ô E.clone a.op=true->∀x∈b.op.operands.toList,na∉refs2 h (ev t x):=fun j h1 h2=>hfar h1 h2 fun p U c hc1 hc2 hb1 hb2 x v id hi m=>by
  have F:=B h1 j;rw[jY,bH] at F;have hk2:=b8.1 F.2 p U;refine wa hk2 hc1 k.hb hb2 hb1 hc2 id m ((jS h1).2 ⟨x,v,?_⟩);rw[N x v];simp only[refs2,bJ];exact .inl hi
 have A:ĺ all b t=some true->1<=cls E b.op->∀x∈b.op.operands.toList,ja h (aps V h) (ev t x):=fun j h1 x v id hi=>by
  refine Ie fun p U m=>?_;rcases hea p U with⟨h2,o⟩|⟨h2,o⟩
  ·exact G j h1 o x v (by rw[<-h2,m]; exact hi)
  ·have F:=B h1 j;rw[jY,bH] at F;refine wa F.1 k.ha k.hb k.bba k.bab (kg.2 (.inl ⟨h2,h1⟩)) p.1 o ?_;rw[m];refine(jS h1).2 ⟨x,v,?_⟩;rw[N x v,hrefs j h1 x v];exact hi
 -- what b does
 obtain⟨φb,b0,b1,b2,b3⟩:=BJ (t:=t) (t2:=ï t a.dst Z) (h:=h) (h2:=aps V h) (call:=call) (fid:=fid) (path:=path) (i:=ib) (nid:=nb) (all:=all) r hpe hb3 (nD _ _) C A;have hfb:pO E all b {t:=ï t a.dst Z,h:=aps V h}=pO E all b {t:=t,h:=h}:=Ey C A;rw[b3] at q2;obtain⟨⟨vb,eb⟩,q3,q4⟩:=ē q2;simp only at q4;rw[hfb] at q4;have heb:=b0 _ q3;simp only at heb;have hfo:ĺ all b t=some true->tj E {t:=ï t a.dst Z,h:=aps V h} b.op=tj E {t:=t,h:=h} b.op:=fun j=>xM N (A j)
 -- a looks at the same
 have R:∀s∈Ś all a,lk (ï t b.dst vb) s=lk t s:=fun s hs=>pW (k.ra s hs) _
 have I:uO E a.op b.op=true->∀id∈pO E all a {t:=t,h:=h},id∉pO E all b {t:=t,h:=h}:=fun hcl id hi hj=>by
  unfold pO at hj;simp only at hj
  split at hj
  ·rename_i j
   have h1:1<=cls E b.op:=by rcases kg.1 hcl with h|h<;>omega
   have F:=B h1 j;rw[jY,bH,hfo j] at F;exact wa F.1 k.ha k.hb k.bba k.bab hcl id hi hj
  ·cases hj
 have u:ĺ all a t=some true->1<=cls E a.op->∀x∈a.op.operands.toList,ja h (aps eb h) (ev t x):=fun j h1 x v id hi=>by
  have W:id∈pO E all a {t:=t,h:=h}:=by
   unfold pO;simp only[j];exact(jS h1).2 ⟨x,v,hi⟩
  refine Ie fun p U m=>?_;rcases heb p U with⟨h2,o⟩|⟨h2,o⟩
  ·exact Y id W (by rw[<-m,h2]; exact hbd o)
  ·exact I (kg.2 (.inr ⟨h1,h2⟩)) id W (m▸o)
 obtain⟨φa',a0',a1',a2',a3'⟩:=BJ (t:=t) (t2:=ï t b.dst vb) (h:=h) (h2:=aps eb h) (call:=call) (fid:=fid) (path:=path) (i:=ia) (nid:=na) (all:=all) r hpe k.a3 (nD _ _) R u;have hfa:pO E all a {t:=ï t b.dst vb,h:=aps eb h}=pO E all a {t:=t,h:=h}:=Ey R u
 have o:kj E call fid path true all ia na a {t:=t,h:=h} (fun S=>K (pO E all a {t:=t,h:=h}) (pO E all b {t:=t,h:=h}) {t:=ï S.t b.dst vb,h:=aps eb S.h})=some r:=by rw[a2,q1]; exact q4
 rw[a2'] at o;obtain⟨⟨va',ea'⟩,q5,q6⟩:=ē o;simp only at q6;have X:=a0' _ q5;simp only at X
 have hcomm:aps eb (aps ea' h)=aps ea' (aps eb h):=QU fun p U q hq T=>by
  rcases X p U with⟨h2,o⟩|⟨h2,o⟩<;>rcases heb q hq with⟨h4,L⟩|⟨h4,L⟩
  ·exact hn o L (by rw[<-h2,<-h4]; exact T)
  ·-- b would write a's new block
   have j:ĺ all b t=some true:=by
    unfold pO at L;simp only at L
    split at L
    ·assumption
    ·cases L
   have h5':q.1∈tj E {t:=t,h:=h} b.op:=by
    unfold pO at L;simp only[j] at L;exact L
   obtain⟨x,v,hi⟩:=(jS (by omega)).1 h5';exact G j (by omega) o x v (by rw[<-h2,T]; exact hi)
  ·exact Y p.1 o (by rw[T,h4]; exact hbd L)
  ·exact I (kg.2 (.inl ⟨h2,by omega⟩)) p.1 o (by rw[T]; exact L)
 rw[Co k.dd,hcomm] at q6
 -- the checks
 have chb:(ĺ all b t==some true&&!chk E all n acc ib (tj E {t:=t,h:=h} b.op))=false:=by
  cases j:ĺ all b t==some true with
  |false=>rfl
  |true =>
   have O:ĺ all b t=some true:=by simpa using j
   rw[hwb,j] at d;simp only[cX,dv] at d ⊢;rw[jY,bH,hfo O] at d;exact d.2
 have cha:(ĺ all a (ï t b.dst vb)==some true&&!chk E all n ((ib,pO E all b {t:=t,h:=h})::acc) ia (tj E {t:=ï t b.dst vb,h:=aps eb h} a.op))=false:=by
  rw[Ŭ R]
  cases j:ĺ all a t==some true with
  |false=>rfl
  |true =>
   have O:ĺ all a t=some true:=by simpa using j
   rw[j] at J;simp only[cX,dv] at J ⊢;rw[xM (zV R) (u O),jY,bH];refine⟨NX ?_,J⟩
   have hfa0:pO E all a {t:=t,h:=h}=tj E {t:=t,h:=h} a.op:=by simp only[pO,O]
   cases z:ĺ all b t with
   |some wb=>cases wb with
    |true =>
     rw[hwb,z] at d;simp only[beq_self_eq_true,cX,dv] at d;rw[jY,bH,hfo z,hfa0] at d;simp only[pO,z];exact d.1
    |false=>simp only[pO,z]; exact yI k.ha k.hb
   |none=>simp only[pO,z]; exact yI k.ha k.hb
 unfold pE;simp only[chb];rw[b2,q3];simp only[Option.bind_some,cha];rw[a3',q5];simp only[Option.bind_some];rw[hfa];exact q6
abbrev Item:=Nat×Nat×Oper
def jg (clone:Nat->Bool):NO Oper->Nat->Nat->NO Item
 |[],_,_=>[]
 |o::os,i,nid=>(i,nid,o)::jg clone os (i+1) (bif ô clone o.op then nid+1 else nid)
def Pr (E:Env ρ) (call:NO Nat->Bool->Nat->NO AV->NO Blk->(AV->NO Blk->Nm ρ)->Nm ρ) (fid:Nat) (path:NO Nat) (all:NO Oper) (b:NO Nat):NO Item->NO (Nat×NO Nat)->St->(St->Nm ρ)->Nm ρ
 |[],_,S,K=>K S
 |x::l,acc,S,K=>pE E call fid path all b acc x.1 x.2.1 x.2.2 S fun F S=>Pr E call fid path all b l ((x.1,F)::acc) S K
def Lg {E:Env ρ} {call:NO Nat->Bool->Nat->NO AV->NO Blk->(AV->NO Blk->Nm ρ)->Nm ρ} {fid:Nat} {path:NO Nat} {all:NO Oper} {b:NO Nat}:∀(os:NO Oper) (i nid:Nat) (acc:NO (Nat×NO Nat)) (S:St) (K:St->Nm ρ),
 TX E call fid path all b os i nid acc S K=Pr E call fid path all b (jg E.clone os i nid) acc S K
 |[],_,_,_,_,_=>rfl
 |o::os,i,nid,acc,S,K=>by
  rw[TW];simp only[jg,Pr];congr 1;funext F S';exact Lg os _ _ _ S' K
def XS {E:Env ρ} {all:NO Oper} {c:NO Nat} {acc b:NO (Nat×NO Nat)} {i:Nat} {F:NO Nat} (h:∀p,p∈acc↔p∈b):chk E all c acc i F=chk E all c b i F:=by
 rw[cN];simp only[chk,b8]
 exact forall_congr' fun p=>by rw[h p]
def KE {E:Env ρ} {call:NO Nat->Bool->Nat->NO AV->NO Blk->(AV->NO Blk->Nm ρ)->Nm ρ} {fid:Nat} {path:NO Nat} {all:NO Oper} {c:NO Nat} {K:St->Nm ρ}:∀(l:NO Item) {acc b:NO (Nat×NO Nat)} (S:St),(∀p,p∈acc↔p∈b) ->
 Pr E call fid path all c l acc S K=Pr E call fid path all c l b S K
 |[],_,_,_,_=>rfl
 |x::l,acc,b,S,h=>by
  simp only[Pr,pE];rw[XS h]
  split
  ·rfl
  ·congr 1;funext S'
   exact KE l S' fun p=>by simp[h p]
def YT {E:Env ρ} {call:NO Nat->Bool->Nat->NO AV->NO Blk->(AV->NO Blk->Nm ρ)->Nm ρ} {fid:Nat} {path:NO Nat} {all:NO Oper} {j:NO Nat} {b:Item} {rest:NO Item} {K:St->Nm ρ} {r:ρ} {h0:NO Blk} {t0:NO AV}
 (v:Wu E call) :
 ∀(as:NO Item) (acc:NO (Nat×NO Nat)) (t:NO AV) (h:NO Blk),(∀a∈as,Yt E all j a.1 b.1 a.2.2 b.2.2)->(∀s∈Ś all b.2.2,lk t s=lk t0 s)->(ô E.clone b.2.2.op=true->lkB h b.2.1=.dead) ->
  (∀a∈as,ô E.clone a.2.2.op=true->ô E.clone b.2.2.op=true->a.2.1≠b.2.1)->(∀a∈as,ô E.clone a.2.2.op=true->∀x∈b.2.2.op.operands.toList,a.2.1∉refs2 h0 (ev t0 x)) ->
  (1<=cls E b.2.2.op->∀x∈b.2.2.op.operands.toList,∀id∈refs1 (ev t0 x),lkB h id=lkB h0 id\/∃p∈acc,(∃c,all[p.1]?=some c/\uO E c.op b.2.2.op=true/\(j.getD b.1 0).testBit p.1=false/\(j.getD p.1 0).testBit b.1=false)/\id∈p.2) ->
  Pr E call fid path all j (as++b::rest) acc {t:=t,h:=h} K=some r->Pr E call fid path all j (b::(as++rest)) acc {t:=t,h:=h} K=some r
 |[],acc,t,h,_,_,_,_,_,_,e=>e
 |a::as,acc,t,h,L,Z,A,X,hfar,hinv,e=>by
  have C:=L a (by simp);have n:∀x∈b.2.2.op.operands.toList,ev t x=ev t0 x:=zV Z
  have G:ô E.clone a.2.2.op=true->∀x∈b.2.2.op.operands.toList,a.2.1∉refs1 (ev t x):=fun k x m hi=>hfar a (by simp) k x m (by
   rw[n x m] at hi;simp only[refs2,bJ]
   exact .inl hi)
  simp only[cO,Pr] at e ⊢
  have fin:=swap (K:=fun R O S=>Pr E call fid path all j (as++rest) ((b.1,O)::(a.1,R)::acc) S K) (r:=r) (t:=t) (h:=h) (acc:=acc) (ia:=a.1) (na:=a.2.1) (ib:=b.1) (nb:=b.2.1) (a:=a.2.2) (b:=b.2.2) (fid:=fid) (path:=path) v C A (X a (by simp)) G
   (fun h1 k V x m=>by
    rw[n x m];have q:∀id∈refs1 (ev t0 x),lkB h id=lkB h0 id:=fun id hi=>(hinv h1 x m id hi).resolve_right fun⟨p,o,⟨c,c1,c2,c3,c4⟩,d⟩=>V p o c c1 c2 c3 c4 x m id (by rw[n x m]; exact hi) d
    have:refs2 h (ev t0 x)=refs2 h0 (ev t0 x):=by
     have U:∀(l:NO Nat),(∀id∈l,lkB h id=lkB h0 id)->(l.flatMap fun id=>(EV (lkB h id)).flatMap ü)=l.flatMap fun id=>(EV (lkB h0 id)).flatMap ü:=by
      intro l
      induction l with
      |nil=>intro _; rfl
      |cons y l ih=>intro hl; simp only[cj]; rw[hl y (by simp),ih fun id hi=>hl id (by simp[hi])]
     simp only[refs2];rw[U _ q]
    rw[this]
    exact hfar a (by simp) k x m) ?_
  ·have u:∀(R O:NO Nat) (S:St),Pr E call fid path all j (as++rest) ((b.1,O)::(a.1,R)::acc) S K=Pr E call fid path all j (as++rest) ((a.1,R)::(b.1,O)::acc) S K:=fun R O S=>KE _ S fun p=>by
    simp only[bL]
    constructor<;>rintro(h|h|h)<;>simp[h]
   simp only[u] at fin;exact fin
  ·-- behind a
   obtain⟨φa,a0,a1,a2,_⟩:=BJ (t:=t) (t2:=t) (h:=h) (h2:=h) (call:=call) (fid:=fid) (path:=path) (i:=a.1) (nid:=a.2.1) (all:=all) r v C.a3 rfl (fun _ _=>rfl) (fun _ _ _ _ _ _=>rfl);unfold pE at e ⊢
   split at e<;>try (cases e; done)
   rename_i I;simp only[I];rw[a2] at e ⊢;obtain⟨⟨va,ea⟩,T,Y⟩:=ē e;rw[T];simp only[cP];have N:=a1 _ T;have z:=a0 _ T;simp only at z Y;refine YT v as _ _ _ (fun c J=>L c (by simp[J])) (fun s hs=>(pW (C.rb s hs) _).trans (Z s hs)) (fun k=>?_) (fun c J=>X c (by simp[J])) (fun c J=>hfar c (by simp[J])) (fun h1 x m id hi=>?_) Y
   ·refine(Ie fun p o d=>?_).trans (A k);rcases z p o with⟨h2,B⟩|⟨h2,B⟩
    ·exact X a (by simp) B k (h2.symm.trans d)
    ·exact N p.1 B (by rw[d]; exact A k)
   ·by_cases F:∃p∈ea,p.1=id
    ·obtain⟨p,o,d⟩:=F;rcases z p o with⟨h2,B⟩|⟨h2,B⟩
     ·exfalso;exact G B x m (by rw[n x m,<-h2,d]; exact hi)
     ·exact .inr ⟨(a.1,_),List.mem_cons_self ..,⟨a.2.2,C.ha,kg.2 (.inl ⟨h2,h1⟩),C.bab,C.bba⟩,d▸B⟩
    ·have W:lkB (aps ea h) id=lkB h id:=Ie fun p o d=>F ⟨p,o,d⟩;rw[W];rcases hinv h1 x m id hi with h2|⟨p,o,h2⟩
     ·exact .inl h2
     ·exact .inr ⟨p,by simp[o],h2⟩
section
variable {ν:Nat->Value} {w:World}
def VR0.refs {a:AV} {v:Value} (c:VR0 ν h w a v):∀id∈ü a,lkB h id≠.dead:=by
 intro id hi hd
 cases a<;>simp only[ü,bK,dh] at hi
 ·subst hi; obtain⟨_,t,g',fz,xs,b,_⟩:=c; rw[hd] at b; cases b
 ·subst hi; obtain⟨_,t,g',fz,xs,b,_⟩:=c; rw[hd] at b; cases b
 ·subst hi; obtain⟨_,t,g',fz,b,_⟩:=c; rw[hd] at b; cases b
 ·subst hi; obtain⟨_,_,b,_⟩:=c; rw[hd] at b; cases b
 ·subst hi; obtain⟨_,t,g',fz,xs,b,_⟩:=c; rw[hd] at b; cases b
 ·subst hi; obtain⟨_,k,g',xss,b,_⟩:=c; rw[hd] at b; cases b
 ·subst hi; obtain⟨_,k,g',xss,b,_⟩:=c; rw[hd] at b; cases b
 ·subst hi; obtain⟨_,k,g',xss,b,_⟩:=c; rw[hd] at b; cases b
 ·subst hi; obtain⟨_,k,g',xss,b,_⟩:=c; rw[hd] at b; cases b
 ·subst hi; obtain⟨_,es,b,_⟩:=c; rw[hd] at b; cases b
def VR1.refs {a:AV} {v:Value} (b:VR1 ν h w a v):∀id∈ü a,lkB h id≠.dead:=by
 cases c:a.isFn with
 |true=>cases a<;>first|(cases c; done)|(intro id hi; cases hi)
 |false=>rw[pD c] at b; exact b.refs
def ì.left_mem {α β:Type} {R:α->β->Prop}:∀{l:NO α} {m:NO β},ì R l m->∀a∈l,∃b∈m,R a b
 |[],_,_,a,ha=>by cases ha
 |x::l,y::m,h,a,ha=>by
  rcases bL.1 ha with rfl|ha
  ·exact⟨y,by simp,h.1⟩
  ·obtain⟨b,hb,c⟩:=ì.left_mem h.2 a ha;exact⟨b,by simp[hb],c⟩
 |_::_,[],h,_,_=>h.elim
def VR.refs1 {a:AV} {v:Value} (j:VR ν h w a v):∀id∈Go.Am.refs1 a,lkB h id≠.dead:=by
 cases d:a.isAgg with
 |true =>
  cases a<;>try cases d
  obtain⟨us,_,h2⟩:=j;intro id hi;simp only[Go.Am.refs1,ci] at hi;obtain⟨c,i,hi⟩:=hi;obtain⟨u,_,b⟩:=h2.left_mem c i;exact b.1.refs id hi
 |false =>
  cases e:a.isTup with
  |true=>cases a<;>first|(cases e; done)|(intro id hi; cases hi)
  |false =>
   have h1:=j.one d e;have h2:=h1.refs
   cases a with
   |fn f fa fb =>
    obtain⟨fs,cs,_,l,k⟩:=h1
    have one:∀c u,VR0 ν h w c u->∀id∈TE c,lkB h id≠.dead:=fun c u b id hi=>by
     cases c with
     |agg=>exact b.elim
     |_=>exact b.refs id hi
    intro id hi;simp only[Go.Am.refs1,bJ,ci] at hi;rcases hi with⟨c,i,hi⟩|⟨c,i,hi⟩
    ·obtain⟨u,_,b⟩:=l.left_mem c i;exact one c u b id hi
    ·obtain⟨u,_,b⟩:=k.left_mem c i;exact one c u b id hi
   |agg=>cases d
   |_=>exact h2
def VR.refs2 (H:HR ν h w) {a:AV} {v:Value} (l:VR ν h w a v):∀id∈Go.Am.refs2 h a,lkB h id≠.dead:=by
 intro id hi;simp only[Go.Am.refs2,bJ,ci] at hi;rcases hi with hi|⟨j,q,c,d,hi⟩
 ·exact l.refs1 id hi
 ·have k:=H.blk j
  cases i:lkB h j with
  |cells cs =>
   rw[i] at k d;obtain⟨b,o,e,_,_,n⟩:=k;obtain⟨u,_,m⟩:=n.left_mem c d;exact m.1.refs id hi
  |_=>rw[i] at d; cases d
end
end
end Go.Am
end

noncomputable section
namespace Go.Am
variable [Globs] [Í]
section
variable {ρ:Type} {ν:Nat->Value} {h:NO Blk} {w:World}
def VT (acc:NO Nat) (o:Oper):Nat:=o.after.toList.foldl (fun s e=>if Region.binds .any e then s ||| 2 ^ e.on ||| acc.getD e.on 0 else s) 0
def zE:∀(os:NO Oper) (acc:NO Nat),∃l,Ľ os acc=acc++l/\∀(k:Nat) (o:Oper),os[k]?=some o->(acc++l).getD (acc.length+k) 0=VT ((acc++l).take (acc.length+k)) o
 |[],acc=>⟨[],by simp[Ľ],by simp⟩
 |o::os,acc=>by
  obtain⟨l,h1,h2⟩:=zE os (acc++[VT acc o]);refine⟨VT acc o::l,?_,?_⟩
  ·simp only[Ľ];show Ľ os (acc++[VT acc o])=_;rw[h1]; simp
  ·intro k o' b
   cases k with
   |zero =>
    simp only[dg,Option.some.injEq] at b;subst b;simp[List.getD]
   |succ k =>
    have:=h2 k o' (by simpa using b);simp only[bS,List.singleton_append,bI,cm] at this;rw[show acc.length+(k+1)=acc.length+1+k by omega];exact this
def VS {os:NO Oper} {k:Nat} {o:Oper} (b:os[k]?=some o):(Ľ os []).getD k 0=VT ((Ľ os []).take k) o:=by
 obtain⟨l,h1,h2⟩:=zE os [];rw[h1];simpa using h2 k o b
def Jw {acc:NO Nat} {i:Nat}:∀(es:NO Edge) (s:Nat),(es.foldl (fun s e=>if Region.binds .any e then s ||| 2 ^ e.on ||| acc.getD e.on 0 else s) s).testBit i=true ->
 s.testBit i=true\/∃e∈es,Region.binds .any e=true/\(i=e.on\/(acc.getD e.on 0).testBit i=true)
 |[],s,h=>.inl h
 |e::es,s,h=>by
  simp only[cM] at h;rcases Jw es _ h with h1|⟨c,b,h1⟩
  ·split at h1
   ·rename_i hb;simp only[Nat.testBit_or,Bool.or_eq_true,Nat.testBit_two_pow,decide_eq_true_eq] at h1;rcases h1 with(h1|h1)|h1
    ·exact .inl h1
    ·exact .inr ⟨e,by simp,hb,.inl h1.symm⟩
    ·exact .inr ⟨e,by simp,hb,.inr h1⟩
   ·exact .inl h1
  ·exact .inr ⟨c,by simp[b],h1⟩
def rD {E:Env ρ} {all:NO Oper} {e:NO Nat}:∀{j:NO Oper} {c:Nat},sR E all e j c=true->∀(k:Nat) (b:Oper),j[k]?=some b->∀(i:Nat) (a:Oper),i<c+k->all[i]?=some a->XP E all a b=false\/(e.getD (c+k) 0).testBit i=true
 |[],_,_,k,b,d,_,_,_,_=>by simp at d
 |x::j,c,h,k,b,d,i,a,hi,ha=>by
  simp only[sR,bH,b8,List.mem_range] at h
  cases k with
  |zero =>
   simp only[dg,Option.some.injEq] at d;subst d;have:=h.1 i (by omega);rw[ha] at this;simp only[Bool.or_eq_true,cF] at this;simpa using this
  |succ k =>
   have:=rD h.2 k b (by simpa using d) i a (by omega) ha
   rwa [show c+1+k=c+(k+1) by omega] at this
def pd:∀{os:NO Oper} {j:Nat},Ng os j=true->∀(k:Nat) (o:Oper),os[k]?=some o->∀e∈o.after,Region.binds .any e=true->e.on<j+k
 |[],_,_,k,o,b,_,_,_=>by simp at b
 |x::os,j,h,k,o,b,e,c,hb=>by
  simp only[Ng,bH,b8] at h
  cases k with
  |zero =>
   simp only[dg,Option.some.injEq] at b;subst b;have:=h.1 e (by simpa using c);simp only[hb,cJ,Bool.false_or,decide_eq_true_eq] at this;omega
  |succ k =>
   have:=pd h.2 k o (by simpa using b) e c hb;omega
def bef_lt {os:NO Oper} (hb:Ng os 0=true):∀(j i:Nat),((Ľ os []).getD j 0).testBit i=true->i<j:=by
 intro j
 induction j using Nat.strongRecOn with
 |ind j e =>
  intro i hi
  cases d:os[j]? with
  |none =>
   obtain⟨l,h1,_⟩:=zE os []
   have c:∀(os:NO Oper) (acc:NO Nat),(Ľ os acc).length=acc.length+os.length:=by
    intro os
    induction os with
    |nil=>intro acc; simp[Ľ]
    |cons o os e=>intro acc; simp only[Ľ]; rw[e]; simp; omega
   have:(Ľ os [])[j]?=none:=by
    rw[List.getElem?_eq_none_iff] at d ⊢;rw[c]; simpa using d
   simp[List.getD,this] at hi
  |some o =>
   rw[VS d] at hi;rcases Jw _ _ hi with m|⟨ed,h1,h2,k⟩
   ·simp at m
   ·have b:=pd hb j o d ed (by simpa using h1) h2;rw[bX] at b;rcases k with rfl|k
    ·exact b
    ·have:((Ľ os []).getD ed.on 0).testBit i=true:=by
      rw[<-k];congr 1;simp only[List.getD,cI];rw[if_pos (by omega)]
     exact Nat.lt_trans (e ed.on b i this) b
def kJ {clone:Nat->Bool}:∀{os:NO Oper} {i nid:Nat} {x:Item},x∈jg clone os i nid->∃k,os[k]?=some x.2.2/\x.1=i+k/\nid<=x.2.1/\(ô clone x.2.2.op=true->x.2.1<nid+ś clone os)
 |[],_,_,_,c=>by cases c
 |o::os,i,nid,x,c=>by
  simp only[jg,bL] at c;rcases c with rfl|c
  ·exact⟨0,by simp,rfl,bE _,fun h=>by rw[iJ]; simp only at h; rw[h]; simp⟩
  ·obtain⟨k,h1,h2,d,e⟩:=kJ c;refine⟨k+1,by simpa using h1,by omega,?_,fun h=>?_⟩
   ·cases b:ô clone o.op<;>rw[b] at d<;>simp at d<;>omega
   ·have:=e h;rw[iJ]
    cases b:ô clone o.op<;>rw[b] at this<;>simp at this ⊢<;>omega
def xA {clone:Nat->Bool}:∀{os:NO Oper} {i nid k:Nat} {o:Oper},os[k]?=some o->∃n,(i+k,n,o)∈jg clone os i nid
 |[],_,_,k,_,h=>by simp at h
 |x::os,i,nid,0,o,h=>by
  simp only[dg,Option.some.injEq] at h;subst h;exact⟨nid,by simp[jg]⟩
 |x::os,i,nid,k+1,o,h=>by
  obtain⟨n,b⟩:=xA (clone:=clone) (i:=i+1) (nid:=bif ô clone x.op then nid+1 else nid) (os:=os) (k:=k) (o:=o) (by simpa using h);exact⟨n,by simp only[jg,bL]; right; rwa [show i+(k+1)=i+1+k by omega]⟩
def ze {clone:Nat->Bool}:∀{os:NO Oper} {i nid:Nat},(jg clone os i nid).Pairwise fun x y=>x.1<y.1/\(ô clone x.2.2.op=true->x.2.1<y.2.1)
 |[],_,_=>List.Pairwise.nil
 |o::os,i,nid=>by
  refine List.Pairwise.cons (fun y d=>?_) ze;obtain⟨k,_,h2,c,_⟩:=kJ d;refine⟨by simp only; omega,fun b=>?_⟩;simp only at b;rw[b] at c;simp at c ⊢;omega
def Sj {l:NO Item} {p e:Item->Bool} {b:Item} (m:l.Pairwise fun x y=>x.1<y.1) (hb:b∈l) (k:p b=true) (d:∀x∈l,e x=(p x&&x.1 != b.1)) :
 ∃as rest,l.filter p=as++b::rest/\l.filter e=as++rest/\∀a∈as,a∈l/\p a=true/\a.1<b.1:=by
 obtain⟨j,i,rfl⟩:=List.append_of_mem hb;rw[List.pairwise_append] at m;obtain⟨_,h2,o⟩:=m;have h1:∀x∈j,x.1<b.1:=fun x c=>o x c b (by simp);have n:∀x∈i,b.1<x.1:=fun x c=>(cf.1 h2).1 x c;refine⟨j.filter p,i.filter p,by simp[k],?_,fun a ha=>?_⟩
 ·have u:j.filter e=j.filter p:=List.filter_congr fun x c=>by
   rw[d x (by simp[c])]
   have:(x.1 != b.1)=true:=by have:=h1 x c; simp; omega
   rw[this]; simp
  have s:i.filter e=i.filter p:=List.filter_congr fun x c=>by
   rw[d x (by simp[c])]
   have:(x.1 != b.1)=true:=by have:=n x c; simp; omega
   rw[this]; simp
  have q:e b=false:=by rw[d b (by simp)]; simp
  simp[u,s,q]
 ·rw[dW] at ha;exact⟨by simp[ha.1],ha.2,h1 a ha.1⟩
def PA {α:Type} {R:α->α->Prop}:∀{l:NO α},l.Pairwise R->∀x∈l,∀y∈l,x=y\/R x y\/R y x
 |[],_,_,c,_,_=>by cases c
 |z::l,h,x,c,y,b=>by
  rw[cf] at h;rcases bL.1 c with c|c
  ·rcases bL.1 b with b|b
   ·exact .inl (c.trans b.symm)
   ·rw[c]; exact .inr (.inl (h.1 y b))
  ·rcases bL.1 b with b|b
   ·rw[b]; exact .inr (.inr (h.1 x c))
   ·exact PA h.2 x c y b
def XJ {E:Env ρ} {call:NO Nat->Bool->Nat->NO AV->NO Blk->(AV->NO Blk->Nm ρ)->Nm ρ} {L:Nat} (hE:f8 E L call) {fid:Nat} {path:NO Nat} {d:Array Oper} (hp:path.length+1=L) (hg:mf d.toList d.toList=true)
 (hd:Ve E d.toList=true) {base:Nat} {K:St->Nm ρ} {r:ρ} {Q:Exit->Act->World->Prop} {m:Nat} (hmb:m<=base) :
 ∀(C:Nat) (c:Array Bool) (acc:NO (Nat×NO Nat)) (S:St) (a:Act) (ν:Nat->Value) (w:World),c.size=d.size ->
  (∀j i,c.getD j false=true->((Ľ d.toList []).getD j 0).testBit i=true->c.getD i false=true) ->
  ((jg E.clone d.toList 0 base).filter fun x=>!c.getD x.1 true).length=C->Sim ν S a w ->
  (∀x∈(jg E.clone d.toList 0 base).filter fun x=>!c.getD x.1 true,ô E.clone x.2.2.op=true->x.2.1<S.h.length/\lkB S.h x.2.1=.dead)->m<=S.h.length ->
  Pr E call fid path d.toList (Ľ d.toList []) ((jg E.clone d.toList 0 base).filter fun x=>!c.getD x.1 true) acc S K=some r ->
  (∀ν' X a' w',Sim ν' X a' w'->Ev m ν S.h w ν' X.h w'->m<=X.h.length->Dd m S.h X.h->K X=some r->Q .normal a' w') ->
  wpAnyIn fen 0 E.P .any d Q C c a w:=by
 simp only[Ve,bH] at hd;obtain⟨G,hdr⟩:=hd
 have B:∀{c:Array Bool} {j:Nat},c.size=d.size->j<d.size->c.getD j true=c.getD j false:=fun {c j} hs hj=>by
  have:j<c.size:=by omega
  simp[this]
 have hpw:=(ze (clone:=E.clone) (os:=d.toList) (i:=0) (nid:=base)).imp fun {x y} h=>h.1;intro C
 induction C with
 |zero =>
  intro c acc S a ν w R hcl A H z hm e hQ;have Y:=bT.1 A;refine⟨?_,?_⟩
  ·rw[List.eq_nil_iff_forall_not_mem];intro j hj;obtain⟨h0,o,ho,_⟩:=mem_ready.1 hj;obtain⟨n,hn⟩:=xA (clone:=E.clone) (i:=0) (nid:=base) (os:=d.toList) (k:=j) (o:=o) (by simpa using ho);have:(0+j,n,o)∈(jg E.clone d.toList 0 base).filter fun x=>!c.getD x.1 true:=dW.2 ⟨hn,by simp only[bX]; rw[h0]; rfl⟩;rw[Y] at this;cases this
  ·rw[Y] at e;exact hQ ν S a w H (Ev.refl _ _ _ _) hm (Dd.refl _ _) e
 |succ C ih =>
  intro c acc S a ν w R hcl A H z hm e hQ;refine⟨fun hr=>?_,fun j hj=>?_⟩
  ·-- the first of those that are left is ready
   exfalso
   cases q:(jg E.clone d.toList 0 base).filter fun x=>!c.getD x.1 true with
   |nil=>rw[q] at A; simp at A
   |cons x l =>
    have s:x∈(jg E.clone d.toList 0 base).filter fun x=>!c.getD x.1 true:=by rw[q]; simp
    rw[dW] at s;obtain⟨k,h1,h2,_⟩:=kJ s.1
    have hk:x.1=k:=by omega
    have I:x.1∈Region.ready .any d c:=mem_ready.2 ⟨by simpa using s.2,x.2.2,by rw[hk]; simpa using h1,fun ed hed hb=>by
     have hlt:=pd G k x.2.2 h1 ed hed hb
     have hks:k<d.size:=by
      have:=(bN.1 h1).1;simpa using this
     cases hl:c.getD ed.on false with
     |true=>rfl
     |false =>
      exfalso;obtain⟨o',ho'⟩:∃o',d.toList[ed.on]?=some o':=⟨_,bG (by simp; omega)⟩;obtain⟨n,hn⟩:=xA (clone:=E.clone) (i:=0) (nid:=base) ho'
      have V:(0+ed.on,n,o')∈x::l:=by
       rw[<-q];refine dW.2 ⟨hn,?_⟩;simp only[bX];rw[B R (by omega),hl];rfl
      have hpl:(x::l).Pairwise fun x y=>x.1<y.1:=by rw[<-q]; exact hpw.filter _
      rcases bL.1 V with W|W
      ·rw[<-W] at hk; simp at hk; omega
      ·have:=(cf.1 hpl).1 _ W
       simp only at this; omega⟩
    rw[hr] at I;cases I
  ·obtain⟨h0,o,ho,hed⟩:=mem_ready.1 hj;have hjs:j<d.size:=(dj.1 ho).1
   have O:d.toList[j]?=some o:=by simpa using ho
   obtain⟨n,hn⟩:=xA (clone:=E.clone) (i:=0) (nid:=base) O;rw[bX] at hn
   have hpp:∀x∈jg E.clone d.toList 0 base,(fun x:Item=>!(c.setIfInBounds j true).getD x.1 true) x=((fun x:Item=>!c.getD x.1 true) x&&x.1 != j):=fun x s=>by
    by_cases N:x.1=j
    ·simp only[N]
     have:j<c.size:=by omega
     simp[this]
    ·have h1:(c.setIfInBounds j true).getD x.1 true=c.getD x.1 true:=getD_set_ne true (Ne.symm N)
     have h2:(x.1 != j)=true:=by simpa using N
     simp only[h1,h2,Bool.and_true]
   obtain⟨as,rest,f1,f2,f3⟩:=Sj (b:=(j,n,o)) hpw hn (by simp only[h0]; rfl) hpp
   have hbit:∀i,((Ľ d.toList []).getD j 0).testBit i=true->c.getD i false=true:=fun i hi=>by
    rw[VS O] at hi;rcases Jw _ _ hi with hz|⟨ed,h1,h2,W⟩
    ·simp at hz
    ·have hl:=hed ed (by simpa using h1) h2;rcases W with rfl|W
     ·exact hl
     ·refine hcl ed.on i hl ?_;have hlt:=pd G j o O ed (by simpa using h1) h2;rw[<-W];congr 1;simp only[List.getD,cI];rw[if_pos (by omega)]
   have T:=ze (clone:=E.clone) (os:=d.toList) (i:=0) (nid:=base)
   have F:((j,n,o):Item)∈(jg E.clone d.toList 0 base).filter fun x=>!c.getD x.1 true:=by rw[f1]; simp
   have hne:∀x∈(jg E.clone d.toList 0 base).filter (fun x=>!c.getD x.1 true),x≠(j,n,o)->ô E.clone x.2.2.op=true->ô E.clone o.op=true->x.2.1≠n:=fun x s N h1 h2=>by
    have hsub:((jg E.clone d.toList 0 base).filter fun x=>!c.getD x.1 true).Pairwise fun x y=>x.1<y.1/\(ô E.clone x.2.2.op=true->x.2.1<y.2.1):=T.filter _;rcases PA hsub x s _ F with he|hr|hr
    ·exact absurd he N
    ·exact dM (hr.2 h1)
    ·exact(dM (hr.2 h2)).symm
   rw[f1] at e
   have e':=YT (b:=(j,n,o)) (h0:=S.h) (t0:=S.t) (K:=K) (r:=r) hE.pureEq as acc S.t S.h (fun x s=>by
    obtain⟨g1,g2,g3⟩:=f3 x s;obtain⟨k,h1,h2,_⟩:=kJ g1
    have hk:x.1=k:=by omega
    have hkj:k<j:=by simp only at g3; omega
    have hnb:((Ľ d.toList []).getD j 0).testBit k=false:=by
     cases hb:((Ľ d.toList []).getD j 0).testBit k with
     |false=>rfl
     |true =>
      exfalso;have hl:=hbit k hb;simp only[cF] at g2;rw[B R (by omega),hk,hl] at g2;cases g2
    have Z:((Ľ d.toList []).getD k 0).testBit j=false:=by
     cases hb:((Ľ d.toList []).getD k 0).testBit j with
     |false=>rfl
     |true=>have:=bef_lt G k j hb; omega
    have:=rD hdr j o O k x.2.2 (by omega) h1;rw[bX,hnb] at this;rw[<-hk] at h1 hnb Z
    exact OE (this.resolve_right (by simp)) h1 O hnb Z)
    (fun _ _=>rfl)
    (fun J=>(z _ F J).2)
    (fun x s h1 h2=>hne x (by rw[f1]; simp[s]) (fun he=>by
     have:=(f3 x s).2.2;rw[he] at this
     simp at this) h1 h2)
    (fun x s h1 y hy hmem=>VR.refs2 H.heap (ý H y) _ hmem ((z x (by rw[f1]; simp[s]) h1).2)) (fun _ _ _ _ _=>.inl rfl) e
   simp only[Pr,pE] at e'
   split at e'<;>try (cases e'; done)
   refine Cl hE.call hE.plain hE.clone hE.yld hg hp ho H (fun J=>z _ F J) e' fun ν' w' u v X g1 g2 g3 g4 g5 g6 g7=>?_;have q:((jg E.clone d.toList 0 base).filter fun x=>!(c.setIfInBounds j true).getD x.1 true)=as++rest:=f2
   have V:∀x∈as++rest,x∈(jg E.clone d.toList 0 base).filter fun x=>!c.getD x.1 true:=fun x s=>by
    rw[f1]
    rcases bJ.1 s with s|s<;>simp[s]
   have hnj:∀x∈as++rest,x≠(j,n,o):=fun x s he=>by
    rw[<-q,dW] at s;rw[he] at s
    have hlt:j<c.size:=by omega
    simp[hlt] at s
   have hm':m<=X.h.length:=bP hm g4;refine ih (c.setIfInBounds j true) ((j,pO E d.toList o S)::acc) {t:=ï X.t o.dst v,h:=X.h} _ ν' w' (by simpa using R) (fun j' i h1 h2=>?_) ?_ ?_ (fun x s J=>?_) hm' ?_ fun ν'' S'' a'' w'' q1 q2 q3 q4 q5=>hQ ν'' S'' a'' w'' q1 ((g3.mono hm).trans q2 (bE _)) q3 (fun i hi hdi=>q4 i hi ?_) q5
   ·by_cases hjj:j=j'
    ·subst hjj;exact getD_set_true (hbit i h2)
    ·rw[getD_set_ne false hjj] at h1;exact getD_set_true (hcl j' i h1 h2)
   ·rw[q];rw[f1] at A;simp only[bI,bO] at A ⊢;omega
   ·rw[g6];exact H.put g3 g2 o.dst g1
   ·rw[q] at s;obtain⟨h1,h2⟩:=z x (V x s) J;refine⟨by simp only; omega,g5 _ h1 ?_ h2⟩
    by_cases U:ô E.clone o.op=true
    ·exact .inl (hne x (V x s) (hnj x s) J U)
    ·exact .inr (by simpa using U)
   ·rw[q];exact g7
   ·refine g5 i (by omega) ?_ hdi
    by_cases U:ô E.clone o.op=true
    ·left;obtain⟨k,_,_,W,_⟩:=kJ hn;simp only at W;show i≠n;omega
    ·exact .inr (by simpa using U)
def iA {E:Env ρ} (hmix:E.P.follows .mixedOrders=true) (L:Nat) (call:NO Nat->Bool->Nat->NO AV->NO Blk->(AV->NO Blk->Nm ρ)->Nm ρ) (C:f8 E L call):kW E L call:=by
 intro fid rid path b S a K r m ν w z e H A;unfold Cq at e
 split at e<;>try (cases e; done)
 rename_i s;simp only[cX,Bool.or_eq_false_iff,dv] at s;apply wpIn_region_any hmix;have c:=fun id=>Jp S.h (ś E.clone b.toList) id;have U:Sim ν {t:=S.t,h:=S.h++List.replicate (ś E.clone b.toList) .dead} a {w with drawn:=w.drawn+1}:=H.same c rfl rfl rfl rfl;have v:Ev m ν S.h w ν (S.h++List.replicate (ś E.clone b.toList) .dead) {w with drawn:=w.drawn+1}:=Ev.same (w:=w) (w':={w with drawn:=w.drawn+1}) c rfl rfl rfl rfl m
 have d:((jg E.clone b.toList 0 S.h.length).filter fun x=>!(Array.replicate b.size false).getD x.1 true)=jg E.clone b.toList 0 S.h.length:=by
  rw[List.filter_eq_self];intro x n;obtain⟨k,h1,h2,_⟩:=kJ n
  have q:k<b.size:=by
   have:=(bN.1 h1).1;simpa using this
  have:x.1=k:=by omega
  simp[this,q]
 have l:∀(os:NO Oper) (i nid:Nat),(jg E.clone os i nid).length=os.length:=by
  intro os
  induction os with
  |nil=>intros; rfl
  |cons o os y=>intro i nid; simp[jg,y]
 refine XJ (fid:=fid) (base:=S.h.length) (K:=K .normal) (r:=r) C z s.2 s.1 A b.size _ [] {t:=S.t,h:=S.h++List.replicate (ś E.clone b.toList) .dead} a ν _ (by simp) (fun j i h1 _=>?_) ?_ U (fun x n u=>?_) ?_ ?_ fun ν' T V w' R O N J I=>⟨ν',T,R,v.trans O (bE _),N,fun j B hd=>J j B (by simp only[c]; exact hd),I⟩
 ·exfalso;rcases ce j b.size with h|h
  ·simp[h] at h1
  ·simp[h] at h1
 ·rw[d,l]; simp
 ·rw[d] at n;obtain⟨k,_,_,G,F⟩:=kJ n;have:=F u;refine⟨by simp; omega,?_⟩;simp only[c];exact Aq _ _ G
 ·simp; omega
 ·rw[d,<-Lg];exact e
end
end Go.Am
end

noncomputable section
namespace Go.Am
variable [Globs]
structure IFun where
 clo:Nat
 ct:Ty
 et:Ty
 F:Val ct->Nm (NO (Val et))
def fV (it:IFun) (m:Val it.ct):NO Blk:=[.acc it.et [],.cells (flat it.ct m)]
def Qm:NO AV:=[.yld,.box 1 0]
structure Np (P:Program) (it:IFun):Prop where
 agg:it.et.isAgg=false
 ok:∀(g:Í) (_:it.et=g.T) (m:Val it.ct) (xs:NO (Val it.et)),it.F m=some xs->@YldP _ g P ⟨it.et,xs,false⟩->∀(ν:Nat->Value) (w:World) (vals:NO Value),g.B<=w.heap.size->@HR _ g ν (fV it m) w->ì (@VR _ g ν (fV it m) w) Qm vals ->
  (∃fn c,P.funcs[it.clo]?=some fn/\fn.body=some c)/\CallsIn Fence.wide 0 P it.clo vals.toArray w fun e w'=>∃ν' h' u,e=.returned u/\@HR _ g ν' h' w'/\Ev 2 ν (fV it m) w ν' h' w'/\lkB h' 0=.acc it.et xs/\∃cs,lkB h' 1=.cells cs/\Ö it.ct cs=some m
def Np.mono {P:Program} {clo:Nat} {ct et:Ty} {F b:Val ct->Nm (NO (Val et))} (h:Np P ⟨clo,ct,et,F⟩) (c:∀m xs,b m=some xs->F m=some xs):Np P ⟨clo,ct,et,b⟩ :=
 ⟨h.agg,fun g d m xs e=>h.ok g d m xs (c m xs e)⟩
def nr0 (id:Nat):AV->Bool
 |.box j _=>!Nat.beq j id
 |_=>true
def nr1 (id:Nat):AV->Bool
 |.fn _ a b=>a.all (nr0 id)&&b.all (nr0 id)
 |v=>nr0 id v
def nr2 (id:Nat):AV->Bool
 |.agg cs=>cs.all (nr1 id)
 |v=>nr1 id v
def nr3 (id:Nat):AV->Bool
 |.tup cs=>cs.all (nr2 id)
 |v=>nr2 id v
def nrB (id:Nat):Blk->Bool
 |.cells cs=>cs.all (nr1 id)
 |.fns es=>es.all fun e=>nr1 id e.2
 |_=>true
def clr (id:Nat) (v:AV):AV:=match nr3 id v with
 |true=>v
 |false=>.any
def ì.memR {α β:Type} {R d:α->β->Prop}:∀{l:NO α} {m:NO β},(∀a∈l,∀b,R a b->d a b)->ì R l m->ì d l m
 |[],[],_,_=>trivial
 |a::l,b::m,c,h=>⟨c a (by simp) b h.1,ì.memR (fun a ha=>c a (by simp[ha])) h.2⟩
 |[],_::_,_,h=>h.elim
 |_::_,[],_,h=>h.elim
def UI {f:Blk->Bool} (h0:f .dead=true):∀(l:NO Blk),l.all f=true->∀i,f (lkB l i)=true
 |[],_,i=>by cases i<;>exact h0
 |x::l,h,0=>by simp only[dZ,bH] at h; exact h.1
 |x::l,h,i+1=>by simp only[dZ,bH] at h; exact UI h0 l h.2 i
def UG {f:AV->Bool} (h0:f .any=true):∀(l:NO AV),l.all f=true->∀i,f (lk l i)=true
 |[],_,i=>by cases i<;>exact h0
 |x::l,h,0=>by simp only[dZ,bH] at h; exact h.1
 |x::l,h,i+1=>by simp only[dZ,bH] at h; exact UG h0 l h.2 i
def UF {f:AV->AV} (h0:f .any=.any):∀(l:NO AV) (i:Nat),lk (l.map f) i=f (lk l i)
 |[],i=>by cases i<;>exact h0.symm
 |x::l,0=>rfl
 |x::l,i+1=>UF h0 l i
section
variable {g:Í} {D:NO Deferred} {Q:Nm Nat} {M:Nat} {ν:Nat->Value} {h:NO Blk} {w:World} {id b0:Nat} {cs:NO AV}
abbrev pA (g:Í) (b0:Nat):Nat->Prop:=fun k=>g.G k\/k=b0
def Vb (i:lkB h id=.cells cs) (d:ν id=.pointer (some ⟨b0,0,none⟩)) (k:Nat) (b:@Av _ (g.re (pA g b0) D Q M) ν (å h id .dead) k):@Av _ g ν h k:=by
 rcases b with⟨j,c,e⟩|b
 ·refine .inl ⟨j,?_,e⟩;rw[mc] at c
  split at c
  ·cases c
  ·exact c
 ·rcases b with b|rfl
  ·exact .inr b
  ·exact .inl ⟨id,by rw[i]; rfl,by rw[d]; rfl⟩
def JH (y:lkB h id=.cells cs) (s:ν id=.pointer (some ⟨b0,0,none⟩)) {a:AV} {v:Value} (z:nr0 id a=true) (l:@VR0 _ g ν h w a v):@VR0 _ (g.re (pA g b0) D Q M) ν (å h id .dead) w a v:=by
 have sub:=Vb (D:=D) (Q:=Q) (M:=M) (g:=g) y s
 have m:∀{j:Nat} {B:Blk},lkB h j=B->(∀cs,B≠.cells cs)->lkB (å h id .dead) j=B:=fun {j B} u A=>by
  rw[Ì _ (fun e=>by rw[e,y] at u; exact A _ u.symm)]; exact u
 cases a with
 |slc t xs=>exact CR.mono sub l
 |mp k t es=>exact CR.mono sub l
 |eptr t x off =>
  obtain⟨b,o,us,h1,h2,d,E,C⟩:=l;exact⟨b,o,us,h1,fun q=>h2 (sub b q),d,CR.mono sub E,C⟩
 |own j q=>obtain⟨h1,t,g',fz,xs,h2,d⟩:=l; exact⟨h1,t,g',fz,xs,m h2 (by simp),d⟩
 |sub j q lo n=>obtain⟨h1,t,g',fz,xs,h2,d⟩:=l; exact⟨h1,t,g',fz,xs,m h2 (by simp),d⟩
 |omp j=>obtain⟨h1,k,t,es,h2,d⟩:=l; exact⟨h1,k,t,es,m h2 (by simp),d⟩
 |optr j q i off=>obtain⟨h1,t,g',fz,xs,h2,d⟩:=l; exact⟨h1,t,g',fz,xs,m h2 (by simp),d⟩
 |dp j q=>obtain⟨h1,k,g',xss,h2,d⟩:=l; exact⟨h1,k,g',xss,m h2 (by simp),d⟩
 |dq j q i=>obtain⟨h1,k,g',xss,h2,d⟩:=l; exact⟨h1,k,g',xss,m h2 (by simp),d⟩
 |dr j q i=>obtain⟨h1,k,g',xss,h2,d⟩:=l; exact⟨h1,k,g',xss,m h2 (by simp),d⟩
 |de j q i o=>obtain⟨h1,k,g',xss,h2,d⟩:=l; exact⟨h1,k,g',xss,m h2 (by simp),d⟩
 |ofn j=>obtain⟨h1,es,h2,d⟩:=l; exact⟨h1,es,m h2 (by simp),d⟩
 |box j off =>
  obtain⟨c,b,h1,h2,d⟩:=l;refine⟨c,b,?_,h2,d⟩;rw[Ì _ (fun e=>by simp[nr0,e] at z)]; exact h1
 |_=>exact l
def B7 (j:lkB h id=.cells cs) (b:ν id=.pointer (some ⟨b0,0,none⟩)) {a:AV} {v:Value} (d:nr1 id a=true) (i:@VR1 _ g ν h w a v):@VR1 _ (g.re (pA g b0) D Q M) ν (å h id .dead) w a v:=by
 cases e:a.isFn with
 |true =>
  cases a<;>try cases e
  obtain⟨fs,c,h1,h2,k⟩:=i;simp only[nr1,bH,b8] at d;exact⟨fs,c,h1,h2.memR fun a ha _=>JH j b (d.1 a ha),k.memR fun a ha _=>JH j b (d.2 a ha)⟩
 |false =>
  rw[@pD _ (g.re _ _ _ _) _ _ _ _ _ e];rw[@pD _ g _ _ _ _ _ e] at i;refine JH j b ?_ i
  cases a<;>first|exact d|cases e
def Qz (i:lkB h id=.cells cs) (b:ν id=.pointer (some ⟨b0,0,none⟩)) {a:AV} {v:Value} (e:nr2 id a=true) (d:@VR2 _ g ν h w a v):@VR2 _ (g.re (pA g b0) D Q M) ν (å h id .dead) w a v:=by
 cases c:a.isAgg with
 |true =>
  cases a<;>try cases c
  obtain⟨vs,h1,h2⟩:=d;simp only[nr2,b8] at e;exact⟨vs,h1,h2.memR fun a ha _ j=>⟨B7 i b (e a ha) j.1,j.2⟩⟩
 |false =>
  rw[@rO _ (g.re _ _ _ _) _ _ _ _ _ c];rw[@rO _ g _ _ _ _ _ c] at d;refine B7 i b ?_ d
  cases a<;>first|exact e|cases c
def Vc (i:lkB h id=.cells cs) (b:ν id=.pointer (some ⟨b0,0,none⟩)) {a:AV} {v:Value} (e:nr3 id a=true) (d:@VR _ g ν h w a v):@VR _ (g.re (pA g b0) D Q M) ν (å h id .dead) w a v:=by
 cases c:a.isTup with
 |true =>
  cases a<;>try cases c
  obtain⟨vs,h1,h2⟩:=d;simp only[nr3,b8] at e;exact⟨vs,h1,h2.memR fun a ha _=>Qz i b (e a ha)⟩
 |false =>
  rw[@ph _ (g.re _ _ _ _) _ _ _ _ _ c];rw[@ph _ g _ _ _ _ _ c] at d;refine Qz i b ?_ d
  cases a<;>first|exact e|cases c
def Vd (F:lkB h id=.cells cs) (A:ν id=.pointer (some ⟨b0,0,none⟩)) (N:(å h id .dead).all (nrB id)=true) (H:@HR _ g ν h w):@HR _ (g.re (pA g b0) D Q M) ν (å h id .dead) w:=by
 have sub:=Vb (D:=D) (Q:=Q) (M:=M) (g:=g) F A;have J:id<h.length:=Ģ F (by simp)
 have L:∀{j},(lkB (å h id .dead) j).live=true->j≠id/\(lkB h j).live=true:=fun {j} u=>by
  rw[mc] at u
  split at u
  ·cases u
  ·rename_i O;exact⟨fun e=>O ⟨e,J⟩,u⟩
 have R:∃c e,w.heap[b0]?=some (.cells c e (0,0)):=by
  have:=@HR.blk _ g _ _ _ H id;rw[F] at this;obtain⟨b,c,e,E,G,_⟩:=this;rw[A] at E; cases E;exact⟨c,e,G⟩
 refine @HR.mk _ (g.re (pA g b0) D Q M) _ _ _ (fun j=>?_) (fun i j b hi u=>@HR.inj _ g _ _ _ H i j b (L hi).2 (L u).2) (fun k C=>?_) (fun j k u hb C=>?_) (@HR.glob _ g _ _ _ H) (fun b hb ⟨j,u,V⟩=>@HR.globL _ g _ _ _ H b hb ⟨j,(L u).2,V⟩)
 ·by_cases u:j=id
  ·rw[u,Ù _ J]; trivial
  ·have l:=UI rfl _ N j;rw[Ì _ u] at l ⊢;have y:=@HR.blk _ g _ _ _ H j
   cases s:lkB h j with
   |dead=>trivial
   |cells c =>
    rw[s] at y l;obtain⟨b,c,e,h1,h2,B⟩:=y;simp only[nrB,b8] at l;exact⟨b,c,e,h1,h2,B.memR fun a ha _ S=>⟨B7 F A (l a ha) S.1,S.2⟩⟩
   |row t g' fz xs =>
    rw[s] at y
    cases fz with
    |true=>exact CR.mono sub y
    |false =>
     obtain⟨base,cap,h1,h2,B⟩:=y;refine⟨base,cap,h1,h2,B.imp (fun z=>z) fun⟨b,off,c,e,K,Z,Y,X⟩=>⟨b,off,c,e,K,Z,Y,fun i x I=>?_⟩⟩;obtain⟨us,E,G⟩:=X i x I;exact⟨us,CR.mono sub E,G⟩
   |map k v es =>
    rw[s] at y;obtain⟨b,d,n,h1,h2,B,K⟩:=y;refine⟨b,d,n,h1,h2,B,fun i x I=>?_⟩;obtain⟨m,us,E,G,U,T⟩:=K i x I;exact⟨m,us,E,CR.mono sub G,CR.mono sub U,T⟩
   |deep k g' xss=>rw[s] at y; exact y
   |fns es =>
    rw[s] at y l;obtain⟨b,d,n,h1,h2,B⟩:=y;simp only[nrB,b8] at l;exact⟨b,d,n,h1,h2,B.memR fun e W _ q=>⟨q.1,q.2.1,B7 F A (l e W) q.2.2⟩⟩
   |acc t xs =>
    rw[s] at y;obtain⟨us,h1,h2,B,K⟩:=y;exact⟨us,h1,h2,B,g.st _ _ _ _ _ _ K ⟨rfl,rfl,rfl,bE _,fun b _ O I=>O (sub b I),fun b o hb _ _=>hb,fun b o hb _ _=>hb,fun _ _ _=>rfl⟩⟩
 ·rcases C with C|rfl
  ·exact @HR.ghlt _ g _ _ _ H k C
  ·obtain⟨c,e,q⟩:=R;exact à q
 ·obtain⟨h1,h2⟩:=L u;rcases C with C|rfl
  ·exact @HR.ghne _ g _ _ _ H j k h2 hb C
  ·exact h1 (@HR.inj _ g _ _ _ H j id k h2 (by rw[F]; rfl) hb (by rw[A]; rfl))
end
section
variable {g:Í} {G1:Nat->Prop} {D D1:NO Deferred} {Q Q1:Nm Nat} {M M1:Nat} {ν:Nat->Value} {h:NO Blk} {w:World} {id b0:Nat} {cs:NO AV}
def VU {P:Blk->Prop} (hd:lkB h id=.dead) {j:Nat} {B:Blk} (b:lkB h j=B) (c:B≠.dead) (C:Blk) (V:Value):lkB (å h id C) j=B/\ç ν id V j=ν j:=by
 letI:Í:=Gh fun _=>False
 have:j≠id:=fun e=>by rw[e,hd] at b; exact c b.symm
 exact⟨by rw[Ì _ this]; exact b,ñ _ _ this⟩
def VV (m:id<h.length) (n:∀b,g.G b->G1 b) (i:G1 b0) (k:Nat) (d:@Av _ (g.re g.G D Q M) (ç ν id (.pointer (some ⟨b0,0,none⟩))) (å h id (.cells cs)) k):@Av _ (g.re G1 D1 Q1 M1) ν h k:=by
 rcases d with⟨j,l,c⟩|d
 ·by_cases e:j=id
  ·rw[e,Ê] at c; cases c; exact .inr i
  ·rw[Ì _ e] at l; rw[ñ _ _ e] at c; exact .inl ⟨j,l,c⟩
 ·exact .inr (n k d)
def J1 (hd:lkB h id=.dead) (u:id<h.length) (A:∀b,g.G b->G1 b) (y:G1 b0) {a:AV} {v:Value} (e:@VR0 _ (g.re G1 D1 Q1 M1) ν h w a v):@VR0 _ (g.re g.G D Q M) (ç ν id (.pointer (some ⟨b0,0,none⟩))) (å h id (.cells cs)) w a v:=by
 have sub:=VV (D:=D) (Q:=Q) (M:=M) (D1:=D1) (Q1:=Q1) (M1:=M1) (ν:=ν) (cs:=cs) u A y;have m:∀{j:Nat} {B:Blk},lkB h j=B->B≠.dead->lkB (å h id (.cells cs)) j=B:=fun {j B} s z=>(VU (P:=fun _=>True) (ν:=ν) hd s z _ .nilFunc).1;have l:∀{j:Nat} {B:Blk},lkB h j=B->B≠.dead->ç ν id (.pointer (some ⟨b0,0,none⟩)) j=ν j:=fun {j B} s z=>(VU (P:=fun _=>True) (ν:=ν) hd s z (.cells cs) _).2
 cases a with
 |slc t xs=>exact CR.mono sub e
 |mp k t es=>exact CR.mono sub e
 |eptr t x off =>
  obtain⟨b,o,us,h1,h2,d,E,C⟩:=e;exact⟨b,o,us,h1,fun q=>h2 (sub b q),d,CR.mono sub E,C⟩
 |own j q=>obtain⟨h1,t,g',fz,xs,h2,d⟩:=e; exact⟨h1,t,g',fz,xs,m h2 (by simp),by rw[l h2 (by simp)]; exact d⟩
 |sub j q lo n=>obtain⟨h1,t,g',fz,xs,h2,d⟩:=e; exact⟨h1,t,g',fz,xs,m h2 (by simp),by rw[l h2 (by simp)]; exact d⟩
 |omp j=>obtain⟨h1,k,t,es,h2,d⟩:=e; exact⟨h1,k,t,es,m h2 (by simp),by rw[l h2 (by simp)]; exact d⟩
 |optr j q i off=>obtain⟨h1,t,g',fz,xs,h2,d⟩:=e; exact⟨h1,t,g',fz,xs,m h2 (by simp),by rw[l h2 (by simp)]; exact d⟩
 |dp j q=>obtain⟨h1,k,g',xss,h2,d⟩:=e; exact⟨h1,k,g',xss,m h2 (by simp),by rw[l h2 (by simp)]; exact d⟩
 |dq j q i=>obtain⟨h1,k,g',xss,h2,d⟩:=e; exact⟨h1,k,g',xss,m h2 (by simp),by rw[l h2 (by simp)]; exact d⟩
 |dr j q i=>obtain⟨h1,k,g',xss,h2,d⟩:=e; exact⟨h1,k,g',xss,m h2 (by simp),by rw[l h2 (by simp)]; exact d⟩
 |de j q i o=>obtain⟨h1,k,g',xss,h2,d⟩:=e; exact⟨h1,k,g',xss,m h2 (by simp),by rw[l h2 (by simp)]; exact d⟩
 |ofn j=>obtain⟨h1,es,h2,d⟩:=e; exact⟨h1,es,m h2 (by simp),d.trans (l h2 (by simp)).symm⟩
 |box j off=>obtain⟨c,b,h1,h2,d⟩:=e; exact⟨c,b,m h1 (by simp),by rw[l h1 (by simp)]; exact h2,d⟩
 |_=>exact e
def Cc (hd:lkB h id=.dead) (d:id<h.length) (k:∀b,g.G b->G1 b) (e:G1 b0) {a:AV} {v:Value} (i:@VR1 _ (g.re G1 D1 Q1 M1) ν h w a v):@VR1 _ (g.re g.G D Q M) (ç ν id (.pointer (some ⟨b0,0,none⟩))) (å h id (.cells cs)) w a v:=by
 cases j:a.isFn with
 |true =>
  cases a<;>try cases j
  obtain⟨fs,c,h1,h2,l⟩:=i;exact⟨fs,c,h1,h2.mono fun _ _=>J1 hd d k e,l.mono fun _ _=>J1 hd d k e⟩
 |false =>
  rw[@pD _ (g.re _ _ _ _) _ _ _ _ _ j];rw[@pD _ (g.re G1 _ _ _) _ _ _ _ _ j] at i;exact J1 hd d k e i
def QP (hd:lkB h id=.dead) (c:id<h.length) (k:∀b,g.G b->G1 b) (d:G1 b0) {a:AV} {v:Value} (e:@VR2 _ (g.re G1 D1 Q1 M1) ν h w a v):@VR2 _ (g.re g.G D Q M) (ç ν id (.pointer (some ⟨b0,0,none⟩))) (å h id (.cells cs)) w a v:=by
 cases i:a.isAgg with
 |true =>
  cases a<;>try cases i
  obtain⟨vs,h1,h2⟩:=e;exact⟨vs,h1,h2.mono fun _ _ j=>⟨Cc hd c k d j.1,j.2⟩⟩
 |false =>
  rw[@rO _ (g.re _ _ _ _) _ _ _ _ _ i];rw[@rO _ (g.re G1 _ _ _) _ _ _ _ _ i] at e;exact Cc hd c k d e
def VW (hd:lkB h id=.dead) (c:id<h.length) (j:∀b,g.G b->G1 b) (d:G1 b0) {a:AV} {v:Value} (e:@VR _ (g.re G1 D1 Q1 M1) ν h w a v):@VR _ (g.re g.G D Q M) (ç ν id (.pointer (some ⟨b0,0,none⟩))) (å h id (.cells cs)) w a v:=by
 cases i:a.isTup with
 |true =>
  cases a<;>try cases i
  obtain⟨vs,h1,h2⟩:=e;exact⟨vs,h1,h2.mono fun _ _=>QP hd c j d⟩
 |false =>
  rw[@ph _ (g.re _ _ _ _) _ _ _ _ _ i];rw[@ph _ (g.re G1 _ _ _) _ _ _ _ _ i] at e;exact QP hd c j d e
def VX (hd:lkB h id=.dead) (F:id<h.length) (R:∀b,g.G b->G1 b) (I:G1 b0) (X:¬g.G b0) (W:¬b0<Globs.n) {c:Array Value} {e:TypeId} (hw:w.heap[b0]?=some (.cells c e (0,0)))
 (hc:ì (@VRc _ (g.re g.G D Q M) (ç ν id (.pointer (some ⟨b0,0,none⟩))) (å h id (.cells cs)) w) cs c.toList) (H:@HR _ (g.re G1 D1 Q1 M1) ν h w):@HR _ (g.re g.G D Q M) (ç ν id (.pointer (some ⟨b0,0,none⟩))) (å h id (.cells cs)) w:=by
 have sub:=VV (D:=D) (Q:=Q) (M:=M) (D1:=D1) (Q1:=Q1) (M1:=M1) (ν:=ν) (cs:=cs) F R I
 have V:∀{j b},(lkB (å h id (.cells cs)) j).live=true->Ċ (ç ν id (.pointer (some ⟨b0,0,none⟩)) j) b->(j=id/\b=b0)\/(j≠id/\(lkB h j).live=true/\Ċ (ν j) b):=fun {j b} B K=>by
  by_cases q:j=id
  ·rw[q,Ê] at K; cases K; exact .inl ⟨q,rfl⟩
  ·rw[Ì _ q] at B; rw[ñ _ _ q] at K; exact .inr ⟨q,B,K⟩
 refine @HR.mk _ (g.re g.G D Q M) _ _ _ (fun j=>?_) (fun i j b hi B Z Y=>?_) (fun k O=>@HR.ghlt _ (g.re G1 D1 Q1 M1) _ _ _ H k (R k O)) (fun j k B hb O=>?_) (@HR.glob _ (g.re G1 D1 Q1 M1) _ _ _ H) (fun b hb ⟨j,B,K⟩=>by
  rcases V B K with⟨_,q⟩|⟨_,s,C⟩
  ·rw[q] at hb; exact W hb
  ·exact @HR.globL _ (g.re G1 D1 Q1 M1) _ _ _ H b hb ⟨j,s,C⟩)
 ·by_cases B:j=id
  ·rw[B,Ù _ F];exact⟨b0,c,e,Ê _ _ _,hw,hc⟩
  ·rw[Ì _ B];have A:=@HR.blk _ (g.re G1 D1 Q1 M1) _ _ _ H j;have l:=ñ ν (.pointer (some ⟨b0,0,none⟩)) B
   cases y:lkB h j with
   |dead=>trivial
   |cells c2 =>
    rw[y] at A;obtain⟨b,c3,e3,h1,h2,J⟩:=A;exact⟨b,c3,e3,l.trans h1,h2,J.mono fun _ _ hq=>⟨Cc hd F R I hq.1,hq.2⟩⟩
   |row t g' fz xs =>
    rw[y] at A
    cases fz with
    |true =>
     show CR w _ _ _ [ç ν id _ j];rw[l]; exact CR.mono sub A
    |false =>
     obtain⟨base,cap,h1,h2,J⟩:=A;refine⟨base,cap,l.trans h1,h2,J.imp (fun z=>z) fun⟨b,off,c,e,S,h5,h6,h7⟩=>⟨b,off,c,e,S,h5,h6,fun i x L=>?_⟩⟩;obtain⟨us,E,s⟩:=h7 i x L;exact⟨us,CR.mono sub E,s⟩
   |map k v es =>
    rw[y] at A;obtain⟨b,d,u,h1,h2,J,S⟩:=A;refine⟨b,d,u,l.trans h1,h2,J,fun i x L=>?_⟩;obtain⟨m,us,E,s,C,U⟩:=S i x L;exact⟨m,us,E,CR.mono sub s,CR.mono sub C,U⟩
   |deep k g' xss =>
    rw[y] at A;obtain⟨base,cap,us,h1,h2⟩:=A;exact⟨base,cap,us,l.trans h1,h2⟩
   |fns es =>
    rw[y] at A;obtain⟨b,d,u,h1,h2,J⟩:=A;exact⟨b,d,u,l.trans h1,h2,J.mono fun _ _ q=>⟨q.1,q.2.1,Cc hd F R I q.2.2⟩⟩
   |acc t xs =>
    rw[y] at A;obtain⟨us,h1,h2,J,S⟩:=A;refine⟨us,l.trans h1,by rw[l]; exact h2,J,?_⟩;rw[l];exact g.st _ _ _ _ _ _ S ⟨rfl,rfl,rfl,bE _,fun b _ hn L=>hn (sub b L),fun b o hb _ _=>hb,fun b o hb _ _=>hb,fun _ _ _=>rfl⟩
 ·have N:∀{j b},(lkB h j).live=true->Ċ (ν j) b->b≠b0:=fun {j b} E s C=>@HR.ghne _ (g.re G1 D1 Q1 M1) _ _ _ H j b E s (by rw[C]; exact I)
  rcases V hi Z with⟨E,s⟩|⟨E,s,C⟩<;>rcases V B Y with⟨U,T⟩|⟨U,T,q6⟩
  ·rw[E,U]
  ·exact absurd s (N T q6)
  ·exact absurd T (N s C)
  ·exact @HR.inj _ (g.re G1 D1 Q1 M1) _ _ _ H i j b s T C q6
 ·rcases V B hb with⟨E,s⟩|⟨E,s,C⟩
  ·rw[s] at O; exact X O
  ·exact @HR.ghne _ (g.re G1 D1 Q1 M1) _ _ _ H j k s C (R k O)
end
def st0 (pin:Nat):AV->Bool
 |.any=>true
 |.und=>true
 |.bool _=>true
 |.int _ _=>true
 |.str _=>true
 |.nils=>true
 |.slc _ _=>true
 |.nilm=>true
 |.mp _ _ _=>true
 |.nilp=>true
 |.nilfn=>true
 |.yld=>true
 |.ifc _=>true
 |.box id _=>Nat.blt id pin
 |.ofn id=>Nat.blt id pin
 |_=>false
def st3 (pin:Nat):AV->Bool
 |.fn _ a b=>a.all (st0 pin)&&b.all (st0 pin)
 |a=>st0 pin a
section
variable [Í] {ν ν':Nat->Value} {h h':NO Blk} {w w':World} {pin:Nat}
def VR0.stab (e:Ev pin ν h w ν' h' w') {a:AV} {v:Value} (c:st0 pin a=true) (j:VR0 ν h w a v):VR0 ν' h' w' a v:=by
 cases a with
 |box id off =>
  obtain⟨cs,b,l,h1,h2⟩:=j;have d:id<pin:=cD c;have hb:=e.blk id d;rw[l] at hb;obtain⟨⟨o,i⟩,m⟩:=hb;exact⟨o,b,i,by rw[m]; exact h1,h2⟩
 |ofn id =>
  obtain⟨h1,es,l,h2⟩:=j;have d:id<pin:=cD c;have hb:=e.blk id d;rw[l] at hb;obtain⟨⟨n,i⟩,m⟩:=hb;exact⟨h1,n,i,by rw[m]; exact h2⟩
 |slc t xs=>exact CR.keep e.keepA j
 |mp k t es=>exact CR.keep e.keepA j
 |own=>cases c
 |sub=>cases c
 |omp=>cases c
 |optr=>cases c
 |eptr=>cases c
 |dp=>cases c
 |dq=>cases c
 |dr=>cases c
 |de=>cases c
 |fn=>cases c
 |agg=>cases c
 |tup=>cases c
 |_=>exact j
def VR.stab (e:Ev pin ν h w ν' h' w') {a:AV} {v:Value} (c:st3 pin a=true) (d:VR ν h w a v):VR ν' h' w' a v:=by
 cases a with
 |fn f fa fb =>
  obtain⟨fs,cs,h1,h2,i⟩:=d;simp only[st3,bH,b8] at c;exact⟨fs,cs,h1,h2.memR fun a ha _=>VR0.stab e (c.1 a ha),i.memR fun a ha _=>VR0.stab e (c.2 a ha)⟩
 |agg=>cases c
 |tup=>cases c
 |any=>trivial
 |und=>exact d
 |bool=>exact d
 |int=>exact d
 |str=>exact d
 |nils=>exact d
 |nilm=>exact d
 |nilp=>exact d
 |nilfn=>exact d
 |yld=>exact d
 |box id off=>exact VR0.stab (a:=.box id off) e c d
 |ofn id=>exact VR0.stab (a:=.ofn id) e c d
 |ifc b=>exact d
 |slc t xs=>exact VR0.stab (a:=.slc t xs) e rfl d
 |mp k t es=>exact VR0.stab (a:=.mp k t es) e rfl d
 |own=>cases c
 |sub=>cases c
 |omp=>cases c
 |optr=>cases c
 |eptr=>cases c
 |dp=>cases c
 |dq=>cases c
 |dr=>cases c
 |de=>cases c
def ZI {t:Ty} (c:t.isAgg=false) {x:Val t} {u:Value} (b:CR w (Av ν h) t x [u]):VR ν h w (enc t x) u:=by
 have d:flat t x=[enc t x]:=by cases t<;>first|rfl|cases c
 have:=gR (ν:=ν) (h:=h) b;rw[d] at this;exact VR1.up this.1.1
end
def Θ (P:Program) (f:Nat):Nm Code :=
 match P.funcs[f]? with
 |some fn=>fn.body
 |none=>none
structure Nz (ρ:Type) where
 path:NO Nat
 fid:Nat
 bid:Nat
 pin:Nat
 cs:NO Ty
 vs:NO Ty
 head:Tpl
 it:IFun
 bF:Val (tyL cs)->Val (tyL vs)->Val it.et->(Val (tyL vs)->Nm ρ)->Nm ρ
section
variable {ρ:Type}
def Pu (E:Env ρ) (call:NO Nat->Bool->Nat->NO AV->NO Blk->(AV->NO Blk->Nm ρ)->Nm ρ) (fid:Nat) (path:NO Nat) (pin bid:Nat) (it:LI) (S:St) (y:AV) (c:St->Nm ρ):Nm ρ :=
 match it with
 |.rf _ ps a b=>match ps.toList with
  |[p]=>goC E call fid path pin bid a {t:=upd S.t p y,h:=S.h} fun e S=>match e with
   |.normal=>goC E call fid path pin bid b S fun e S=>match e with
    |.normal=>c S
    |_=>none
   |_=>none
  |_=>none
 |_=>none
def Nz.back (x:Nz ρ) (b:Val (tyL x.cs)->Val (tyL x.vs)->Nm ρ) (S:St):Nm ρ:=match m9 x.head x.pin x.cs x.vs S with
 |some (p,v)=>b p v
 |none=>none
structure Nz.Ok (E:Env ρ) (x:Nz ρ):Prop where
 one:(((Θ E.P x.fid).elim [] (Ú 0)).filter fun y=>Nat.beq y.1 x.bid).length=1
 it:Np E.P x.it
 tm:∀p v v',(é x.head x.cs x.vs p v').t=(é x.head x.cs x.vs p v).t
 stab:∀p v,(é x.head x.cs x.vs p v).t.all (st3 x.pin)=true
 law:∀p v y (kn:Val (tyL x.cs)->Val (tyL x.vs)->Nm ρ),Pu E (Η E (10-x.path.length / 2)) x.fid x.path x.pin x.bid (uI (Θ E.P x.fid) x.bid) (é x.head x.cs x.vs p v) (enc x.it.et y) (x.back kn)=x.bF p v y (kn p)
def rngK (x:Nz ρ) (m:Nat) (g:AV) (S:St) (K:Exit->St->Nm ρ):Nm ρ :=
 match Nat.ble m x.pin with
 |true=>match g with
  |.fn (.func c) [] [.box id 0]=>match Nat.beq c x.it.clo with
   |true=>match lkB S.h id with
    |.cells cs=>match cs.all (fun a=>!vL a)&&(å S.h id .dead).all (nrB id) with
     |true=>match Ö x.it.ct cs with
      |some d=>match m9 x.head x.pin x.cs x.vs {t:=S.t.map (clr id),h:=å S.h id .dead} with
       |some (p,v)=>Â (x.it.F d) fun xs=>U3 (x.bF p) xs v fun v=>K .normal (bif Nat.blt id x.pin then {t:=(é x.head x.cs x.vs p v).t,h:=å (é x.head x.cs x.vs p v).h id (.cells (flat x.it.ct d))} else é x.head x.cs x.vs p v)
       |none=>none
      |none=>none
     |false=>none
    |_=>none
   |false=>none
  |_=>none
 |false=>none
structure RJ (g:Í) (x:Nz ρ) (ν:Nat->Value) (h:NO Blk) (p:Val (tyL x.cs)) (xs:NO (Val x.it.et)) (Kf:Val (tyL x.vs)->Nm ρ) (r:ρ) (ν1:Nat->Value) (h1:NO Blk) (a:Act) (t1:NO AV) (W1:World) (O X:Nat->Prop) (pre:NO (Val x.it.et)) (W:World):Prop where
 os:W.os=W1.os
 tape:W.tape=W1.tape
 output:W.output=W1.output
 size:W1.heap.size<=W.heap.size
 nd:∀(k:Nat) (o:Obj),W1.heap[k]?=some o->AM o=false->W.heap[k]?=some o
 ex:∃(ν':Nat->Value) (v':Val (tyL x.vs)) (suf:NO (Val x.it.et)),xs=pre++suf/\U3 (x.bF p) suf v' Kf=some r/\(∀k,O k↔kY ν' (é x.head x.cs x.vs p v').h k) /\
  @HR _ (g.re (fun k=>X k/\¬O k/\k<W.heap.size) [] none 0) ν' (é x.head x.cs x.vs p v').h W /\
  (∀i,@VR _ (g.re (fun k=>X k/\¬O k/\k<W.heap.size) [] none 0) ν' (é x.head x.cs x.vs p v').h W (lk t1 i) (a.tmps.getD i undef)) /\
  (∀b,b<W1.heap.size->¬kY ν h b->¬kY ν' (é x.head x.cs x.vs p v').h b) /\
  (∀id,id<x.pin->(lkB h1 id).next ν1 ν' id (lkB (é x.head x.cs x.vs p v').h id))/\Dd x.pin h1 (é x.head x.cs x.vs p v').h
section
variable {g:Í} {x:Nz ρ} {ν:Nat->Value} {h:NO Blk} {p:Val (tyL x.cs)} {xs:NO (Val x.it.et)} {Kf:Val (tyL x.vs)->Nm ρ} {r:ρ} {ν1:Nat->Value} {h1:NO Blk} {a:Act} {t1:NO AV} {W1:World}
def RJ.st (s:g.B<=W1.heap.size) {O X v:Nat->Prop} {d:NO (Val x.it.et)} {W l:World} (H:RJ g x ν h p xs Kf r ν1 h1 a t1 W1 O X d W) (S:StepJ W1.heap.size O X W v l):RJ g x ν h p xs Kf r ν1 h1 a t1 W1 O v d l:=by
 obtain⟨V,U,T,R,N,ν',e,m,K,J,n,I,G,F,E,C⟩:=H;have av:∀b,@Av _ (g.re (fun k=>X k/\¬O k/\k<W.heap.size) [] none 0) ν' (é x.head x.cs x.vs p e).h b↔kY ν' (é x.head x.cs x.vs p e).h b\/(X b/\¬O b/\b<W.heap.size):=fun b=>Iff.rfl
 have A:ŷ (g.re (fun k=>X k/\¬O k/\k<W.heap.size) [] none 0) ν' (é x.head x.cs x.vs p e).h W (fun k=>v k/\¬O k/\k<l.heap.size) l:=by
  refine⟨S.os,S.tape,S.output,S.size,fun b hb y j=>?_,fun b o hb c j=>?_,fun b o hb c q=>S.nd b o hb c (bQ q s),S.gl⟩
  ·rw[av] at y;exact S.av b hb (fun u=>y (.inr ⟨u,j.2.1,hb⟩)) j.1
  ·refine S.dat b o hb c fun u=>?_;rcases Classical.em (O b) with h'|h'
   ·exact h'
   ·exact(n b).2 (j ((av b).2 (.inr ⟨u,h',à hb⟩)))
 refine⟨S.os.trans V,S.tape.trans U,S.output.trans T,bP R S.size,fun k o z c=>S.nd k o (N k o z c) c (à z),ν',e,m,K,J,n,?_,fun i=>?_,F,E,C⟩
 ·exact HR.step (g:=g.re (fun k=>X k/\¬O k/\k<W.heap.size) [] none 0) (D:=[]) (Q:=none) (M:=0) A (fun b hb=>hb.2.2) (fun b L hb=>hb.2.1 ((n b).2 L)) I
 ·exact VR.step (g:=g.re (fun k=>X k/\¬O k/\k<W.heap.size) [] none 0) (D:=[]) (Q:=none) (M:=0) A (G i)
def atP {x:Nz ρ} (p:Val (tyL x.cs)) (k:Val (tyL x.vs)->Nm ρ) (b:Val (tyL x.cs)) (v:Val (tyL x.vs)):Nm ρ:=open Classical in if b=p then k v else none
def Ya {x:Nz ρ} (p:Val (tyL x.cs)) (k:Val (tyL x.vs)->Nm ρ):atP p k p=k:=by
 funext v; unfold atP; rw[if_pos rfl]
def X9 {x:Nz ρ} {p b:Val (tyL x.cs)} {k:Val (tyL x.vs)->Nm ρ} {v:Val (tyL x.vs)} {r:ρ} (h:atP p k b v=some r):b=p/\k v=some r:=by
 unfold atP at h
 split at h
 ·exact⟨‹_›,h⟩
 ·cases h
def UW (ν:Nat->Value) (h:NO Blk):∃us:Array Value,∀b,Ċ (.agg us) b↔kY ν h b:=by
 have s:∀n,∃l:NO Value,∀b,(∃u∈l,fP u=some b)↔∃id,id<n/\(lkB h id).live=true/\Ċ (ν id) b:=by
  intro n
  induction n with
  |zero=>exact⟨[],fun b=>⟨fun⟨u,d,_⟩=>(by cases d),fun⟨_,hi,_⟩=>(by omega)⟩⟩
  |succ n z =>
   obtain⟨l,o⟩:=z
   obtain⟨m,y⟩:∃m:NO Value,∀b,(∃u∈m,fP u=some b)↔((lkB h n).live=true/\Ċ (ν n) b):=by
    cases A:(lkB h n).live with
    |false=>exact⟨[],fun b=>⟨fun⟨u,d,_⟩=>(by cases d),fun⟨q,_⟩=>(by cases q)⟩⟩
    |true =>
     cases B:ν n with
     |agg vs=>exact⟨vs.toList,fun b=>⟨fun q=>⟨rfl,q⟩,fun q=>q.2⟩⟩
     |pointer a=>exact⟨[.pointer a],fun b=>⟨fun⟨u,d,q⟩=>⟨rfl,by rw[bK.1 d] at q; exact q⟩,fun q=>⟨_,.head _,q.2⟩⟩⟩
     |slice a k c=>exact⟨[.slice a k c],fun b=>⟨fun⟨u,d,q⟩=>⟨rfl,by rw[bK.1 d] at q; exact q⟩,fun q=>⟨_,.head _,q.2⟩⟩⟩
     |map r=>exact⟨[.map r],fun b=>⟨fun⟨u,d,q⟩=>⟨rfl,by rw[bK.1 d] at q; exact q⟩,fun q=>⟨_,.head _,q.2⟩⟩⟩
     |_=>exact⟨[],fun b=>⟨fun⟨u,d,_⟩=>(by cases d),fun q=>q.2.elim⟩⟩
   refine⟨l++m,fun b=>⟨fun⟨u,d,q⟩=>?_,fun⟨i,hi,e,j⟩=>?_⟩⟩
   ·rcases bJ.1 d with d|d
    ·obtain⟨i,hi,e⟩:=(o b).1 ⟨u,d,q⟩;exact⟨i,by omega,e⟩
    ·exact⟨n,by omega,(y b).1 ⟨u,d,q⟩⟩
   ·rcases Nat.lt_succ_iff_lt_or_eq.1 hi with h1|rfl
    ·obtain⟨u,d,q⟩:=(o b).2 ⟨i,h1,e,j⟩;exact⟨u,cn _ d,q⟩
    ·obtain⟨u,d,q⟩:=(y b).2 ⟨e,j⟩;exact⟨u,cd _ d,q⟩
 obtain⟨l,o⟩:=s h.length;refine⟨l.toArray,fun b=>⟨fun q=>?_,fun⟨id,e,j⟩=>?_⟩⟩
 ·obtain⟨id,_,e,j⟩:=(o b).1 (by simpa using q);exact⟨id,e,j⟩
 ·have v:id<h.length:=by
   rcases ce id h.length with h'|h'
   ·exact h'
   ·letI:Í:=Gh fun _=>False
    rw[Aq _ _ h'] at e; cases e
  simpa using(o b).2 ⟨id,v,e,j⟩
def ĵ {w:World} {l:Nat} {o':Obj} {c:Loop} (d:w.heap[l]?=some (.loop c)) (b:Nat) (o:Obj) (hb:w.heap[b]?=some o) (hd:AM o=true\/b≠l):(w.putObj l o').heap[b]?=some o:=by
 have:b≠l:=fun e=>by
  subst e;rcases hd with hd|hd
  ·rw[d] at hb; cases hb; cases hd
  ·exact hd rfl
 rw[World.putObj_heap_other this]; exact hb
def BX {w:World} {l:Nat} {o':Obj} {d:Loop} (e:w.heap[l]?=some (.loop d)) (c:Globs.Φ w) (b:Nat) (hb:b<Globs.n):(w.putObj l o').heap[b]?=w.heap[b]?:=by
 obtain⟨o,h1,h2⟩:=Globs.dat w c b hb;rw[h1]; exact ĵ e b o h1 (.inl h2)
def RJ.round {E:Env ρ} {N:Nat} {call:NO Nat->Bool->Nat->NO AV->NO Blk->(AV->NO Blk->Nm ρ)->Nm ρ} (hEnv:∀[Í],Ţ E->f8 E N call) (hDraw:∀[Í],f8 E N call->kW E N call) (R:x.path.length+2=N) (hy:@Ţ _ g ρ E)
 {gop:Operand} {ps:Array Tmp} {A Bd:Code} {p0:Tmp} (hps:ps.toList=[p0]) (hL:∀[Í],Ţ E->∀z∈Ú x.bid A++Ú x.bid Bd,gw E x.path x.fid z.1 z.2)
 (hag:x.it.et.isAgg=false) (htm:∀p v v',(é x.head x.cs x.vs p v').t=(é x.head x.cs x.vs p v).t) (hst:∀p v,(é x.head x.cs x.vs p v).t.all (st3 x.pin)=true)
 (hlen:∀v,x.pin<=(é x.head x.cs x.vs p v).h.length)
 (law:∀p v y (kn:Val (tyL x.cs)->Val (tyL x.vs)->Nm ρ),Pu E call x.fid x.path x.pin x.bid (.rf gop ps A Bd) (é x.head x.cs x.vs p v) (enc x.it.et y) (fun S=>match m9 x.head x.pin x.cs x.vs S with
  |some (p,v)=>kn p v
  |none=>none)=x.bF p v y (kn p))
 {J:FuncId} {dn:Nat} {l:Nat} (hl1:W1.heap[l]?=some (.loop {state:=.ready,pending:=none,fn:=J,tmps:=a.tmps,params:=ps,assign:=A,body:=Bd,defers:=dn})) (hgl:g.B<=l) (hgB:g.B<=W1.heap.size) (ht1:∃v,t1=(é x.head x.cs x.vs p v).t) (htl:t1.length<=a.tmps.size)
 {O X:Nat->Prop} {pre:NO (Val x.it.et)} {y:Val x.it.et} {u:Value} {W:World} (H:RJ g x ν h p xs Kf r ν1 h1 a t1 W1 O X pre W) (hOX:∀b,O b->X b) (hXs:∀b,X b->b<W.heap.size) (hpre:pre++[y] <+: xs) (hcr:CR W X x.it.et y [u]) :
 YieldAt Fence.wide 0 E.P l #[u] W fun e W'=>e=.returned (.bool true)/\W'.os=W.os/\W'.tape=W.tape/\W'.output=W.output/\W.heap.size<=W'.heap.size /\
  ∃us,(∀b,b<W.heap.size->¬O b->W'.heap[b]?=W.heap[b]?/\¬Ċ (.agg us) b)/\(∀b,Ċ (.agg us) b->∃o,W'.heap[b]?=some o/\AM o=true)/\RJ g x ν h p xs Kf r ν1 h1 a t1 W1 (Ċ (.agg us)) (fun b=>(X b/\¬O b)\/Ċ (.agg us) b) (pre++[y]) W':=by
 obtain⟨e1,e2,e3,e4,e5,ν',v',suf,q1,q2,q3,q4,q5,q6,q7,q8⟩:=H
 -- what is yielded is what comes next
 obtain⟨n,rfl⟩:∃n,suf=y::n:=by
  obtain⟨s,hs⟩:=hpre;rw[q1,bS] at hs;exact⟨s,(List.append_cancel_left hs).symm⟩
 have hl:W.heap[l]?=_:=e5 l _ hl1 rfl;obtain⟨GX,hGX⟩:∃GX:Nat->Prop,GX=fun k=>X k/\¬O k/\k<W.heap.size:=⟨_,rfl⟩;rw[<-hGX] at q4 q5
 letI gr:Í:=g.re GX [] (some l) W.heap.size
 have hyr:Ţ E:=hy;have hE:=hEnv hyr;have hD:=hDraw hE;obtain⟨S,hS⟩:∃S,S=é x.head x.cs x.vs p v':=⟨_,rfl⟩
 have hSt:S.t=t1:=by obtain⟨v0,h0⟩:=ht1; rw[hS,h0]; exact htm p v0 v'
 have hlen':x.pin<=S.h.length:=by rw[hS]; exact hlen v'
 rw[<-hS] at q3 q4 q5 q6 q7 q8;have H0:HR ν' S.h W:=HR.re (g:=g.re GX [] none 0) q4
 have V0:∀i,VR ν' S.h W (lk S.t i) (a.tmps.getD i undef):=fun i=>by rw[hSt]; exact q5 i
 have avX:∀b,Av ν' S.h b->X b:=fun b hb=>by
  rcases hb with hb|hb
  ·exact hOX b ((q3 b).2 hb)
  ·have hb:GX b:=hb;rw[hGX] at hb; exact hb.1
 have hu:VR ν' S.h W (enc x.it.et y) u:=ZI hag (CR.mono avX hcr);have fr0:∀(W2:World) (r2:Loop),W2.heap[l]?=some (.loop r2)->W.heap.size<=W2.heap.size->Fr W2 []:=fun W2 r2 h2 h3=>⟨⟨[],rfl,dJ,fun _ q=>(by cases q)⟩,fun l' e=>by cases e; exact⟨r2,h2⟩,bP hgB e4,h3⟩
 have sim0:Sim ν' {t:=upd S.t p0 (enc x.it.et y),h:=S.h} {tmps:=a.tmps.setIfInBounds p0 u,defers:=[]} W:=by
  have s0:Sim ν' S {tmps:=a.tmps,defers:=[]} W:=⟨fr0 W _ hl (bE _),by rw[hSt]; exact htl,V0,H0⟩;exact s0.put (Ev.refl _ _ _ _) H0 (some p0) hu
 -- the law
 have C:=law p v' y (atP p fun v=>U3 (x.bF p) n v Kf);rw[Ya,show x.bF p v' y (fun v=>U3 (x.bF p) n v Kf)=some r from q2,<-hS] at C;unfold Pu at C;simp only[hps] at C;have hLr:∀z∈Ú x.bid A++Ú x.bid Bd,gw E x.path x.fid z.1 z.2:=hL hyr;have hgo:=nF hE R A x.bid _ _ ν' _ W (fun _=>hD) (fun z hz=>hLr z (List.mem_append_left _ hz)) C sim0 hlen'
 have htm0:((ps.zip #[u]).foldl (fun t (p,v)=>t.setIfInBounds p v) a.tmps)=a.tmps.setIfInBounds p0 u:=by
  have:ps=#[p0]:=by rw[<-ca,hps]
  rw[this]; simp
 refine ⟨_, _, _, _, run_yield hl (by have : ps = #[p0] := by (rw [<- ca, hps])
                                      rw[this]; rfl),?_⟩
 rw[htm0];refine roundIn_of_wpIn (F:=Fence.wide) trivial (wpIn_mono (show A.wpIn (Fence.wide.inRound l) 0 E.P _ _ W from hgo) fun e aA WA hA=>?_);obtain⟨Y,SA,sA,j,lnA,ddA,kA⟩:=hA
 cases e with
 |normal =>
  simp only at kA;have T:WA.heap[l]?=some (.loop _):=H0.nd j l _ hl rfl;refine⟨_,run_beginRound T rfl,?_⟩;have d:ŷ gr Y SA.h WA gr.G (WA.putObj l (.loop {state:=.busy,pending:=none,fn:=J,tmps:=a.tmps,params:=ps,assign:=A,body:=Bd,defers:=dn})):=ŷ.nds rfl rfl rfl (by simp) fun b o hb hd=>ĵ T b o hb (hd.imp id fun hlt=>by have:b<g.B:=hlt; omega);obtain⟨Wb,hWb⟩:∃Wb,Wb=WA.putObj l (.loop {state:=.busy,pending:=none,fn:=J,tmps:=a.tmps,params:=ps,assign:=A,body:=Bd,defers:=dn}):=⟨_,rfl⟩;rw[<-hWb] at d ⊢
  have hlb:Wb.heap[l]?=some (.loop {state:=.busy,pending:=none,fn:=J,tmps:=a.tmps,params:=ps,assign:=A,body:=Bd,defers:=dn}):=by rw[hWb]; exact World.putObj_heap_same (à T)
  have sB:Sim Y SA aA Wb:=by
   refine⟨?_,sA.len,fun i=>VR.step (g:=gr) (D:=[]) (Q:=some l) (M:=W.heap.size) d (sA.tmps i),HR.step (g:=gr) (D:=[]) (Q:=some l) (M:=W.heap.size) d (fun b hb=>bQ (sA.heap.ghlt b hb) d.size) (fun b ⟨i,hi,hb⟩=>sA.heap.ghne i b hi hb) sA.heap⟩;obtain⟨⟨ms,m1,m2,m3⟩,_,m4,m5⟩:=sA.defers;refine⟨⟨ms,m1,m2,fun k hk=>⟨?_,(m3 k hk).2⟩⟩,fun l' e=>by cases e; exact⟨_,hlb⟩,m4,bP m5 d.size⟩;rw[hWb];exact ĵ T k _ (m3 k hk).1 (.inr fun e=>by have hk0:=(m3 k hk).1; rw[e,T] at hk0; cases hk0)
  have hgo2:=nF hE R Bd x.bid _ _ Y _ Wb (fun _=>hD) (fun z hz=>hLr z (cd _ hz)) kA sB lnA;refine wpIn_mono (show Bd.wpIn (Fence.wide.inRound l) 0 E.P _ _ Wb from hgo2) fun e aC WC hC=>?_;obtain⟨νC,SC,sC,m,lnC,ddC,L⟩:=hC
  cases e with
  |normal =>
   simp only at L
   split at L<;>try (cases L; done)
   rename_i p' Z hm;obtain⟨hp',L⟩:=X9 L;subst hp';obtain⟨V,sD,evD,lnD,ddD⟩:=oe _ _ _ _ _ _ _ νC aC WC hm sC;have I:WC.heap[l]?=some (.loop _):=sB.heap.nd m l _ hlb rfl;have hrun:=run_endRound (P:=E.P) none I;obtain⟨K,c⟩:∃K,K=WC.putObj l (.loop {state:=.ready,pending:=none,fn:=J,tmps:=a.tmps,params:=ps,assign:=A,body:=Bd,defers:=dn}):=⟨_,rfl⟩;refine⟨_,K,by rw[c]; exact hrun,rfl,?_⟩;have hWs:W.heap.size<=WC.heap.size:=bP j.size (bP d.size m.size)
   have s4:K.heap.size=WC.heap.size:=by rw[c]; simp
   have h4l:K.heap[l]?=some (.loop {state:=.ready,pending:=none,fn:=J,tmps:=a.tmps,params:=ps,assign:=A,body:=Bd,defers:=dn}):=by rw[c]; exact World.putObj_heap_same (à I)
   have h4o:∀b,b≠l->K.heap[b]?=WC.heap[b]?:=fun b hb=>by rw[c]; exact World.putObj_heap_other hb
   have hbo:∀b,b≠l->Wb.heap[b]?=WA.heap[b]?:=fun b hb=>by rw[hWb]; exact World.putObj_heap_other hb
   have U:∀b,b<W.heap.size->¬kY ν' S.h b->K.heap[b]?=W.heap[b]?/\¬kY V (é x.head x.cs x.vs p' Z).h b:=fun b hb hn=>by
    obtain⟨k1,k2⟩:=j.keep b hb hn;obtain⟨k3,k4⟩:=m.keep b (bQ hb (bP j.size d.size)) k2;obtain⟨k5,k6⟩:=evD.keep b (bQ hb hWs) k4;refine⟨?_,k6⟩
    by_cases hbl:b=l
    ·rw[hbl,h4l,hl]
    ·rw[h4o b hbl,k3,hbo b hbl,k1]
   obtain⟨us,hus⟩:=UW V (é x.head x.cs x.vs p' Z).h
   have o4:K.os=W.os/\K.tape=W.tape/\K.output=W.output:=by
    rw[c];exact⟨m.os.trans (d.os.trans j.os),m.tape.trans (d.tape.trans j.tape),m.output.trans (d.output.trans j.output)⟩
   have KG4:ŷ gr V (é x.head x.cs x.vs p' Z).h WC (fun k=>((X k/\¬O k)\/Ċ (.agg us) k)/\¬Ċ (.agg us) k/\k<K.heap.size) K:=by
    refine⟨by rw[c]; rfl,by rw[c]; rfl,by rw[c]; rfl,dK s4.symm,fun b hb hn hx=>?_,fun b o hb ho _=>?_,fun b o hb ho hlt=>?_,fun hΦ b hb=>by rw[c]; exact BX I hΦ b hb⟩
    ·obtain⟨hx1,hx2,_⟩:=hx;obtain⟨hx3,hx4⟩:=hx1.resolve_right hx2;refine hn (.inr ?_);show GX b;rw[hGX]; exact⟨hx3,hx4,hXs b hx3⟩
    ·rw[c]; exact ĵ I b o hb (.inl ho)
    ·rw[c]; exact ĵ I b o hb (.inr fun e=>by have:b<g.B:=hlt; omega)
   refine⟨o4.1,o4.2.1,o4.2.2,by rw[s4]; exact hWs,us,fun b hb hn=>?_,fun b hb=>?_,?_⟩
   ·obtain⟨k1,k2⟩:=U b hb fun hL=>hn ((q3 b).2 hL);exact⟨k1,fun q=>k2 ((hus b).1 q)⟩
   ·obtain⟨o,k1,k2⟩:=sD.heap.dat ((hus b).1 hb);exact⟨o,by rw[c]; exact ĵ I b o k1 (.inl k2),k2⟩
   ·refine⟨o4.1.trans e1,o4.2.1.trans e2,o4.2.2.trans e3,bP e4 (by rw[s4]; exact hWs),fun k o hk ho=>?_,V,Z,n,by rw[q1,bS]; rfl,L,hus,?_,fun i=>?_,fun b hb hn=>?_,fun id hid=>?_,?_⟩
    ·by_cases hkl:k=l
     ·rw[hkl] at hk ⊢;rw[h4l,<-hl1,hk]
     ·rw[h4o k hkl];have k1:=H0.nd j k o (e5 k o hk ho) ho;have k2:Wb.heap[k]?=some o:=(hbo k hkl).trans k1;exact sB.heap.nd m k o k2 ho
    ·exact HR.step (g:=gr) (D:=[]) (Q:=none) (M:=0) KG4 (fun b hb=>hb.2.2) (fun b hl hb=>hb.2.1 ((hus b).2 hl)) sD.heap
    ·have hs3:st3 x.pin (lk t1 i)=true:=by
      rw[<-hSt,hS];exact UG rfl _ (hst p' v') i
     have v1:VR ν' S.h W (lk t1 i) (a.tmps.getD i undef):=by rw[<-hSt]; exact V0 i
     have v2:=VR.stab j hs3 v1;have v3:VR Y SA.h Wb (lk t1 i) (a.tmps.getD i undef):=VR.step (g:=gr) (D:=[]) (Q:=some l) (M:=W.heap.size) d v2;have v4:=VR.stab evD hs3 (VR.stab m hs3 v3);exact VR.step (g:=gr) (D:=[]) (Q:=none) (M:=0) KG4 v4
    ·exact(U b (bQ hb e4) (q6 b hb hn)).2
    ·exact Blk.next_trans (Blk.next_trans (Blk.next_trans (q7 id hid) (j.blk id hid)) (m.blk id hid)) (evD.blk id hid)
    ·exact((q8.trans ddA (bE _)).trans ddC (bE _)).trans ddD (bE _)
  |exit id=>cases L
  |goto l=>cases L
  |ret=>cases L
  |panic ch=>cases L
  |outgrown=>cases L
 |exit id=>cases kA
 |goto l=>cases kA
 |ret=>cases kA
 |panic ch=>cases kA
 |outgrown=>cases kA
def Mu (T:Tpl) (cs vs:NO Ty) (p:Val (tyL cs)) (v:Val (tyL vs)):(é T cs vs p v).h.length=T.heap.length:=by
 letI:Í:=Gh fun _=>False
 unfold é;exact me _ _
def TI {E:Env ρ} {N:Nat} {call:NO Nat->Bool->Nat->NO AV->NO Blk->(AV->NO Blk->Nm ρ)->Nm ρ} (hEnv:∀[Í],Ţ E->f8 E N call) (hDraw:∀[Í],f8 E N call->kW E N call) (hpath:x.path.length+2=N) (hy:@Ţ _ g ρ E)
 {gop:Operand} {ps:Array Tmp} {A Bd:Code} (hL:∀[Í],Ţ E->∀z∈Ú x.bid A++Ú x.bid Bd,gw E x.path x.fid z.1 z.2)
 (hit:Np E.P x.it) (htm:∀p v v',(é x.head x.cs x.vs p v').t=(é x.head x.cs x.vs p v).t) (hst:∀p v,(é x.head x.cs x.vs p v).t.all (st3 x.pin)=true)
 (law:∀p v y (kn:Val (tyL x.cs)->Val (tyL x.vs)->Nm ρ),Pu E call x.fid x.path x.pin x.bid (.rf gop ps A Bd) (é x.head x.cs x.vs p v) (enc x.it.et y) (fun S=>match m9 x.head x.pin x.cs x.vs S with
  |some (p,v)=>kn p v
  |none=>none)=x.bF p v y (kn p)) (hps:∃p0,ps.toList=[p0])
 (hplain : ∀ (f : Nat) (fn : Func), E.P.funcs[f]? = some fn -> (fn.name == "runtime.NumGoroutine") = false)
 {m:Nat} {S:St} {K:Exit->St->Nm ρ} {r:ρ} {ν:Nat->Value} {a:Act} {w:World} (e:rngK x m (ev S.t gop) S K=some r) (H:@Sim _ g ν S a w) (hm:m<=S.h.length) :
 (Code.rangeFunc gop ps A Bd).wpIn (@fen _ g) 0 E.P (@Nv _ g ρ m ν S.h w K r) a w:=by
 obtain⟨p0,hps⟩:=hps;unfold rngK at e
 split at e<;>try (cases e; done)
 rename_i hmp;have hmp:m<=x.pin:=cD hmp
 split at e<;>try (cases e; done)
 rename_i c id hg
 split at e<;>try (cases e; done)
 rename_i hcm;obtain rfl:=bM hcm
 split at e<;>try (cases e; done)
 rename_i cs hl
 split at e<;>try (cases e; done)
 rename_i hchk;simp only[bH] at hchk;obtain⟨hown,hnr⟩:=hchk
 split at e<;>try (cases e; done)
 rename_i d hd
 split at e<;>try (cases e; done)
 rename_i p v hmt;simp only[Â] at e
 split at e<;>try (cases e; done)
 rename_i xs hxs
 -- the iterator
 have hH:=@Sim.heap _ g _ _ _ _ H;have hbid:=@HR.blk _ g _ _ _ hH id;rw[hl] at hbid;obtain⟨b0,cb,te,hν,hb0,hcells⟩:=hbid;have hgv:@VR _ g ν S.h w (ev S.t gop) (a.eval gop):=@ý _ g _ _ _ _ H gop;rw[hg] at hgv;obtain⟨fs,cps,hge,hfs,hcps⟩:=hgv
 have hfs0:fs=#[]:=by rw[<-ca]; exact hfs.nil_left
 obtain⟨uc,hu1,hu2⟩:=hcps.one
 have huc:uc=.pointer (some ⟨b0,0,none⟩):=by
  obtain⟨_,b',_,q1,q2⟩:=hu2;rw[hν] at q1; cases q1; exact q2
 have hcps0:cps=#[.pointer (some ⟨b0,0,none⟩)]:=by rw[<-ca,hu1,huc]
 rw[hfs0,hcps0] at hge
 -- the box is let go
 obtain⟨h0,hh0⟩:∃h0,h0=å S.h id .dead:=⟨_,rfl⟩;have hid:id<S.h.length:=Ģ hl (by simp)
 letI g1:Í:=g.re (pA g b0) g.D g.Q g.M
 have H1:HR ν h0 w:=by rw[hh0]; exact Vd hl hν hnr hH
 have sim1:Sim ν {t:=S.t.map (clr id),h:=h0} a w:=by
  refine⟨@Sim.defers _ g _ _ _ _ H,by rw[List.length_map]; exact @Sim.len _ g _ _ _ _ H,fun i=>?_,H1⟩;show VR ν h0 w (lk (S.t.map (clr id)) i) _;rw[UF rfl,hh0];unfold clr
  split
  ·exact Vc hl hν ‹_› (@Sim.tmps _ g _ _ _ _ H i)
  ·trivial
 rw[<-hh0] at hmt;obtain⟨ν1,sim2,ev1,hp1,dd1⟩:=oe _ _ _ _ _ _ _ ν a w hmt sim1;obtain⟨S1,hS1⟩:∃S1,S1=é x.head x.cs x.vs p v:=⟨_,rfl⟩;rw[<-hS1] at sim2 ev1 hp1 dd1
 have hlen:∀v,x.pin<=(é x.head x.cs x.vs p v).h.length:=fun v'=>by rw[Mu,<-Mu x.head x.cs x.vs p v,<-hS1]; exact hp1
 have L01:∀b,kY ν1 S1.h b->kY ν h0 b:=fun b hb=>Classical.byContradiction fun hn=>(ev1.keep b (sim2.heap.lt hb) hn).2 hb
 have L0:∀b,kY ν h0 b->kY ν S.h b/\b≠b0:=fun b ⟨j,hj,ho⟩=>by
  rw[hh0,mc] at hj
  split at hj
  ·cases hj
  ·rename_i hne;refine⟨⟨j,hj,ho⟩,fun eb=>hne ⟨?_,hid⟩⟩;exact @HR.inj _ g _ _ _ hH j id b hj (by rw[hl]; rfl) ho (by rw[hν,eb]; rfl)
 have hb0L:kY ν S.h b0:=⟨id,by rw[hl]; rfl,by rw[hν]; rfl⟩
 -- what is known of the frame
 have hfr:=@Sim.defers _ g _ _ _ _ H;have hgBw:g.B<=w.heap.size:=bP hfr.2.2.1 hfr.2.2.2;refine wpIn_rangeFunc ?_;intro fn hfn
 -- the record
 obtain⟨l,marks,dn,W1,henter,hl1,hlw,hW1s,hW1o,hW1d,hmarks⟩:∃(l:Nat) (marks:NO Nat) (dn:Nat) (W1:World),(Instr.enterLoop fn a.tmps ps A Bd (@fen _ g).round).run E.P w=.ok (l,marks.map mk1) W1 /\
  W1.heap[l]?=some (.loop {state:=.ready,pending:=none,fn:=fn,tmps:=a.tmps,params:=ps,assign:=A,body:=Bd,defers:=dn})/\w.heap.size<=l/\w.heap.size<=W1.heap.size/\(W1.os=w.os/\W1.tape=w.tape/\W1.output=w.output)/\(∀b,b<w.heap.size->W1.heap[b]?=w.heap[b]?) /\
  (marks.Nodup/\∀k∈marks,W1.heap[k]?=some (.deferred (some []))/\w.heap.size<=k):=by
  have hro:(@fen _ g).round=g.Q:=rfl;rw[hro]
  cases hQ:g.Q with
  |none =>
   refine⟨w.heap.size+1,[w.heap.size],w.heap.size,_,run_enterLoop_outer _ _ _ _ _,?_,by omega,by simp; omega,⟨rfl,rfl,rfl⟩,fun b hb=>?_,by simp,fun k hk=>?_⟩
   ·have:=World.alloc_heap_new (w.alloc (.deferred (some []))) (.loop {state:=.ready,pending:=none,fn:=fn,tmps:=a.tmps,params:=ps,assign:=A,body:=Bd,defers:=w.heap.size})
    rwa [World.size_alloc] at this
   ·rw[RowKit.Below.heap_alloc _ _ _ (by simp; omega),RowKit.Below.heap_alloc _ _ _ hb]
   ·rw[bK.1 hk];exact⟨(RowKit.Below.heap_alloc _ _ _ (by simp)).trans (World.alloc_heap_new w _),bE _⟩
  |some l0 =>
   obtain⟨r0,hr0⟩:=hfr.2.1 l0 hQ;refine⟨w.heap.size,[],r0.defers,_,run_enterLoop_inner hr0 _ _ _ _ _,World.alloc_heap_new _ _,bE _,by simp,⟨rfl,rfl,rfl⟩,fun b hb=>RowKit.Below.heap_alloc _ _ _ hb,dJ,fun k hk=>by cases hk⟩
 obtain⟨hmn,hmk⟩:=hmarks;have hlW1:l<W1.heap.size:=à hl1;have hold:∀(b:Nat) (o:Obj),w.heap[b]?=some o->W1.heap[b]?=some o:=fun b o hb=>(hW1d b (à hb)).trans hb
 -- what the loop's body gets
 obtain⟨us0,hus0⟩:=UW ν1 S1.h;obtain⟨Kf,hKf⟩:∃Kf:Val (tyL x.vs)->Nm ρ,Kf=fun v=>K .normal (bif Nat.blt id x.pin then {t:=(é x.head x.cs x.vs p v).t,h:=å (é x.head x.cs x.vs p v).h id (.cells (flat x.it.ct d))} else é x.head x.cs x.vs p v):=⟨_,rfl⟩;rw[<-hKf] at e;have htl:S1.t.length<=a.tmps.size:=sim2.len
 letI gp:Í:=⟨g.G,[],none,W1.heap.size,l,W1.heap.size,x.it.et,RJ g x ν S.h p xs Kf r ν1 S1.h a S1.t W1,fun O X X' pre W W' hJ hS=>RJ.st (bP hgBw hW1s) hJ hS⟩
 have hgl:g.B<=l:=bP hgBw hlw;have hgB1:g.B<=W1.heap.size:=bP hgBw hW1s;have hyp:@YldP _ gp E.P ⟨x.it.et,xs,false⟩:=⟨rfl,fun O X pre y u W hJ hOX hXs hpre hcr hB=>RJ.round hEnv hDraw hpath hy hps hL hit.agg htm hst hlen law hl1 hgl hgB1 ⟨v,by rw[hS1]⟩ htl hJ hOX hXs hpre hcr⟩
 -- the iterator's state
 obtain⟨νp,hνp⟩:∃νp:Nat->Value,νp=fun n=>if n=0 then .agg us0 else if n=1 then .pointer (some ⟨b0,0,none⟩) else undef:=⟨_,rfl⟩
 have n0:νp 0=.agg us0:=by rw[hνp]; rfl
 have n1:νp 1=.pointer (some ⟨b0,0,none⟩):=by rw[hνp]; rfl
 have Lp:∀k,kY νp (fV x.it d) k->Ċ (.agg us0) k\/k=b0:=by
  rintro k ⟨i,hi,ho⟩
  match i,hi,ho with
  |0,_,ho=>rw[n0] at ho; exact .inl ho
  |1,_,ho=>rw[n1] at ho; cases ho; exact .inr rfl
  |i+2,hi,_=>cases hi
 have OL:∀k,Ċ (.agg us0) k->kY ν S.h k/\k≠b0:=fun k hk=>L0 k (L01 k ((hus0 k).1 hk))
 have Avp:∀k,@Av _ gp νp (fV x.it d) k->@Av _ g ν S.h k:=fun k hk=>by
  rcases hk with hk|hk
  ·rcases Lp k hk with hk|rfl
   ·exact .inl (OL k hk).1
   ·exact .inl hb0L
  ·exact .inr hk
 have hcr0:CR w (@Av _ g ν S.h) x.it.ct d cb.toList:=þ hd (ì.mono (fun _ _ hx=>@VR1.data _ g _ _ _ _ _ hx.1) hcells);have hcr1:CR W1 (@Av _ gp νp (fV x.it d)) x.it.ct d cb.toList:=CR.kx ⟨hW1s,fun b _ hn hx=>hn (Avp b hx),fun b o hb _ _=>hold b o hb⟩ hcr0
 have hJ0:RJ g x ν S.h p xs Kf r ν1 S1.h a S1.t W1 (Ċ (νp 0)) (@Av _ gp νp (fV x.it d)) [] W1:=by
  have KG:ŷ g1 ν1 S1.h w (fun k=>@Av _ gp νp (fV x.it d) k/\¬Ċ (νp 0) k/\k<W1.heap.size) W1:=by
   refine⟨hW1o.1,hW1o.2.1,hW1o.2.2,hW1s,fun b hb hn hx=>?_,fun b o hb _ _=>hold b o hb,fun b o hb _ _=>hold b o hb,fun hΦ b hb=>hW1d b (by obtain⟨o,h1,_⟩:=Globs.dat w hΦ b hb; exact à h1)⟩;obtain⟨hx1,hx2,_⟩:=hx;rcases hx1 with hx1|hx1
   ·rcases Lp b hx1 with q|rfl
    ·rw[n0] at hx2; exact hx2 q
    ·exact hn (.inr (.inr rfl))
   ·exact hn (.inr (.inl hx1))
  refine⟨rfl,rfl,rfl,bE _,fun _ _ q _=>q,ν1,v,xs,rfl,e,fun k=>by rw[n0,<-hS1]; exact hus0 k,?_,fun i=>?_,fun b _ hn hL2=>?_,fun i _=>?_,?_⟩
  ·rw[<-hS1];exact HR.step (g:=g1) (D:=[]) (Q:=none) (M:=0) KG (fun b hb=>hb.2.2) (fun b hl2 hb=>hb.2.1 (by rw[n0]; exact(hus0 b).2 hl2)) (@Sim.heap _ g1 _ _ _ _ sim2)
  ·rw[<-hS1];exact VR.step (g:=g1) (D:=[]) (Q:=none) (M:=0) KG (@Sim.tmps _ g1 _ _ _ _ sim2 i)
  ·rw[<-hS1] at hL2;exact hn (L0 b (L01 b hL2)).1
  ·rw[<-hS1]; exact Blk.next_refl _ _ _
  ·rw[<-hS1]; exact Dd.refl _ _
 have Hp:@HR _ gp νp (fV x.it d) W1:=by
  refine @HR.mk _ gp _ _ _ (fun i=>?_) (fun i j b hi hj hbi hbj=>?_) (fun b hb=>bQ (@HR.ghlt _ g _ _ _ hH b hb) hW1s) (fun i b hi hbi hg=>?_) (Globs.keep _ _ (@HR.glob _ g _ _ _ hH) fun b hb=>hW1d b (by obtain⟨o,h1,_⟩:=Globs.dat w (@HR.glob _ g _ _ _ hH) b hb; exact à h1)) (fun b hb hL=>by
   rcases Lp b hL with q|rfl
   ·exact @HR.globL _ g _ _ _ hH b hb (OL b q).1
   ·exact @HR.globL _ g _ _ _ hH b hb hb0L)
  ·match i with
   |0 =>
    refine⟨us0,n0,fun b hb=>?_,rfl,hJ0⟩;rw[n0] at hb;obtain⟨o,q1,q2⟩:=@HR.dat _ g _ _ _ hH b (OL b hb).1;exact⟨o,hold b o q1,q2⟩
   |1=>exact⟨b0,cb,te,n1,hold _ _ hb0,@gR _ gp νp (fV x.it d) W1 _ _ _ hcr1⟩
   |i+2=>exact trivial
  ·match i,j,hi,hj,hbi,hbj with
   |0,0,_,_,_,_=>rfl
   |1,1,_,_,_,_=>rfl
   |0,1,_,_,hbi,hbj=>rw[n0] at hbi; rw[n1] at hbj; cases hbj; exact absurd rfl (OL _ hbi).2
   |1,0,_,_,hbi,hbj=>rw[n1] at hbi; rw[n0] at hbj; cases hbi; exact absurd rfl (OL _ hbj).2
   |i+2,_,hi,_,_,_=>cases hi
   |_,j+2,_,hj,_,_=>cases hj
  ·have hg:g.G b:=hg;have key:∀k,kY ν S.h k->¬g.G k:=fun k ⟨j,hj,ho⟩=>@HR.ghne _ g _ _ _ hH j k hj ho
   match i,hi,hbi with
   |0,_,hbi=>rw[n0] at hbi; exact key b (OL b hbi).1 hg
   |1,_,hbi=>rw[n1] at hbi; cases hbi; exact key _ hb0L hg
   |i+2,hi,_=>cases hi
 have hargs:ì (@VR _ gp νp (fV x.it d) W1) Qm [.func (.yield l) #[] #[],.pointer (some ⟨b0,0,none⟩)]:=⟨rfl,⟨flat x.it.ct d,b0,rfl,n1,rfl⟩,trivial⟩;obtain⟨⟨gfn,gc,hgf,hgc⟩,hcall⟩:=hit.ok gp rfl d xs hxs hyp νp W1 _ (bE _) Hp hargs;refine⟨l,marks.map mk1,W1,{target:=.fn (.func x.it.clo) #[.pointer (some ⟨b0,0,none⟩)],args:=#[.func (.yield l) #[] #[]]},W1,x.it.clo,#[.func (.yield l) #[] #[],.pointer (some ⟨b0,0,none⟩)],W1,henter,?_,fun f' _=>trivial,?_,fun q=>(by cases q),?_⟩
 ·simp only[resolve,rangeCall,hge];simp[go_sem]
 ·simp[invoke,callFunc,Sem.run_bind,run_program,Result.andThen_ok,hgf,hgc,hplain x.it.clo gfn hgf];simpa using hplain x.it.clo gfn hgf
 refine CallsIn.mono (show CallsIn (@fen _ g) 0 E.P _ _ _ _ from hcall) fun en W2 hw=>?_;obtain⟨νq,hq,u,rfl,Hq,evq,hacc,csq,hcsq,hdq⟩:=hw
 -- what the loop leaves
 have hBq:=@HR.blk _ gp _ _ _ Hq 0;rw[hacc] at hBq;obtain⟨us2,k1,k2,k3,k4⟩:=hBq;have k4:RJ g x ν S.h p xs Kf r ν1 S1.h a S1.t W1 (Ċ (νq 0)) (@Av _ gp νq hq) xs W2:=k4;obtain⟨j1,j2,j3,j4,j5,νe,ve,suf,q1,q2,q3,q4,q5,q6,q7,q8⟩:=k4
 have hsuf:suf=[]:=by
  have:=congrArg List.length q1;rw[bI] at this;exact bT.1 (by omega)
 rw[hsuf] at q2;have hke:Kf ve=some r:=q2;have hl2:W2.heap[l]?=_:=j5 l _ hl1 rfl;obtain⟨W3,hW3⟩:∃W3,W3=W2.putObj l (.loop {state:=.exhausted,pending:=none,fn:=fn,tmps:=a.tmps,params:=ps,assign:=A,body:=Bd,defers:=dn}):=⟨_,rfl⟩;refine⟨none,W3,by rw[hW3]; exact run_endLoop (P:=E.P) hl2 (by simp),?_⟩;obtain⟨Se,hSe⟩:∃Se,Se=é x.head x.cs x.vs p ve:=⟨_,rfl⟩;rw[<-hSe] at q3 q4 q5 q6 q7 q8
 have s3:W3.heap.size=W2.heap.size:=by rw[hW3]; simp
 have h3o:∀b,b≠l->W3.heap[b]?=W2.heap[b]?:=fun b hb=>by rw[hW3]; exact World.putObj_heap_other hb
 have hG:∀b,g.G b->@Av _ gp νq hq b/\¬Ċ (νq 0) b/\b<W2.heap.size:=fun b hb=>⟨.inr hb,fun ho=>@HR.ghne _ gp _ _ _ Hq 0 b (by rw[hacc]; rfl) ho hb,@HR.ghlt _ gp _ _ _ Hq b hb⟩;obtain⟨G2,hG2⟩:∃G2:Nat->Prop,G2=fun k=>@Av _ gp νq hq k/\¬Ċ (νq 0) k/\k<W2.heap.size:=⟨_,rfl⟩;rw[<-hG2] at q4 q5
 have hGs:∀b,g.G b->G2 b:=fun b hb=>by rw[hG2]; exact hG b hb
 have KG3:ŷ (g.re G2 [] none 0) νe Se.h W2 G2 W3:=by
  refine⟨by rw[hW3]; rfl,by rw[hW3]; rfl,by rw[hW3]; rfl,dK s3.symm,fun b _ hn hb=>hn (.inr hb),fun b o hb ho _=>?_,fun b o hb ho hlt=>?_,fun hΦ b hb=>by rw[hW3]; exact BX hl2 hΦ b hb⟩
  ·rw[hW3]; exact ĵ hl2 b o hb (.inl ho)
  ·rw[hW3]; exact ĵ hl2 b o hb (.inr fun q=>by have:b<g.B:=hlt; omega)
 have H3:@HR _ (g.re G2 [] none 0) νe Se.h W3:=HR.step (g:=g.re G2 [] none 0) (D:=[]) (Q:=none) (M:=0) KG3 (fun b hb=>by rw[hG2] at hb; have:=hb.2.2; omega) (fun b hb hg=>by rw[hG2] at hg; exact hg.2.1 ((q3 b).2 hb)) q4;have nd3:∀(k:Nat) (o:Obj),W1.heap[k]?=some o->AM o=false->k≠l->W3.heap[k]?=some o:=fun k o hk ho hkl=>(h3o k hkl).trans (j5 k o hk ho)
 have hSt:Se.t=S1.t:=by rw[hSe,hS1]; exact htm p v ve
 have V3:∀i,@VR _ (g.re G2 [] none 0) νe Se.h W3 (lk Se.t i) (a.tmps.getD i undef):=fun i=>by rw[hSt]; exact VR.step (g:=g.re G2 [] none 0) (D:=[]) (Q:=none) (M:=0) KG3 (q5 i)
 have hfr3:@Fr _ g W3 (marks.map mk1++a.defers):=by
  obtain⟨⟨ms,m1,m2,m3⟩,m4,m5,m6⟩:=hfr;have lt3:∀k∈ms,k<w.heap.size:=fun k hk=>à (m3 k hk).1;refine⟨⟨marks++ms,?_,?_,fun k hk=>?_⟩,fun l' hl'=>?_,m5,by omega⟩
  ·rw[m1,ff,bS]
  ·refine fo.2 ⟨hmn,m2,fun k1 h1 k2 h2 q=>?_⟩;have:=(hmk k1 h1).2;have:=lt3 k2 h2;omega
  ·rcases bJ.1 hk with hk|hk
   ·obtain⟨z1,z2⟩:=hmk k hk;exact⟨nd3 k _ z1 rfl (fun q=>by rw[q,hl1] at z1; cases z1),bP m6 z2⟩
   ·exact⟨nd3 k _ (hold _ _ (m3 k hk).1) rfl (fun q=>by have:=lt3 k hk; omega),(m3 k hk).2⟩
  ·obtain⟨r',hr'⟩:=m4 l' hl';exact⟨r',nd3 l' _ (hold _ _ hr') rfl (fun q=>by have:=à hr'; omega)⟩
 have ple:x.pin<=Se.h.length:=by rw[hSe]; exact hlen ve
 have blk3:∀i,i<m->i≠id->(lkB S.h i).next ν νe i (lkB Se.h i):=fun i hi hne=>by
  have z1:lkB h0 i=lkB S.h i:=by rw[hh0]; exact Ì _ hne
  have z2:=ev1.blk i (bQ hi hmp);rw[z1] at z2;exact Blk.next_trans z2 (q7 i (bQ hi hmp))
 have dd3:∀j,j<m->lkB S.h j=.dead->j≠id/\lkB Se.h j=.dead:=fun j hj hd2=>by
  have hne:j≠id:=fun q=>by rw[q,hl] at hd2; cases hd2
  have z1:lkB h0 j=.dead:=by rw[hh0,Ì _ hne]; exact hd2
  exact⟨hne,q8 j (by omega) (dd1 j (by omega) z1)⟩
 have keep3:∀b,b<w.heap.size->¬kY ν S.h b->W3.heap[b]?=w.heap[b]?:=fun b hb hn=>by
  rw[h3o b (by omega),(evq.keep b (by omega) fun hL2=>?_).1,hW1d b hb];rcases Lp b hL2 with q|rfl
  ·exact hn (OL b q).1
  ·exact hn hb0L
 have oss:W3.os=w.os/\W3.tape=w.tape/\W3.output=w.output:=by
  rw[hW3];exact⟨j1.trans hW1o.1,j2.trans hW1o.2.1,j3.trans hW1o.2.2⟩
 have sz3:w.heap.size<=W3.heap.size:=by omega
 rw[hKf] at hke;simp only[<-hSe] at hke
 by_cases hip:id<x.pin
 ·-- the box is there again
  have hbt:Nat.blt id x.pin=true:=fD hip;rw[hbt] at hke;have hd0:lkB Se.h id=.dead:=q8 id hip (dd1 id hip (by rw[hh0]; exact Ù _ hid));have hidl:id<Se.h.length:=bQ hip ple;have hq1:=evq.blk 1 (by omega)
  have hν1:νq 1=.pointer (some ⟨b0,0,none⟩):=by
   have:(lkB (fV x.it d) 1)=.cells (flat x.it.ct d):=rfl;rw[this] at hq1;exact hq1.2.trans n1
  have hq1b:=@HR.blk _ gp _ _ _ Hq 1;rw[hcsq] at hq1b;obtain⟨b1,c1,e1',z1,z2,z3⟩:=hq1b;rw[hν1] at z1;cases z1
  have lv1:(lkB hq 1).live=true:=by rw[hcsq]; rfl
  have lv0:(lkB hq 0).live=true:=by rw[hacc]; rfl
  have own1:Ċ (νq 1) b0:=by rw[hν1]; rfl
  have hb02:G2 b0:=by
   rw[hG2];exact⟨.inl ⟨1,lv1,own1⟩,fun q=>absurd (@HR.inj _ gp _ _ _ Hq 0 1 b0 lv0 lv1 q own1) (by omega),à z2⟩
  have hgb:¬g.G b0:=fun q=>@HR.ghne _ g _ _ _ hH id b0 (by rw[hl]; rfl) (by rw[hν]; rfl) q
  have hlb:b0≠l:=fun q=>by rw[q,hl2] at z2; cases z2
  have hw3:W3.heap[b0]?=some (.cells c1 e1' (0,0)):=(h3o b0 hlb).trans z2;have hcr2:CR W2 (@Av _ gp νq hq) x.it.ct d c1.toList:=þ hdq (ì.mono (fun _ _ hx=>@VR1.data _ gp _ _ _ _ _ hx.1) z3)
  have hcr3:CR W3 (@Av _ (g.re g.G g.D g.Q g.M) (ç νe id (.pointer (some ⟨b0,0,none⟩))) (å Se.h id (.cells (flat x.it.ct d)))) x.it.ct d c1.toList:=by
   refine CR.kx ⟨dK s3.symm,fun b _ hn hx=>hn ?_,fun b o hb ho _=>by rw[hW3]; exact ĵ hl2 b o hb (.inl ho)⟩ hcr2;rcases hx with⟨j,hj,ho⟩|hx
   ·by_cases q:j=id
    ·rw[q,Ê] at ho; cases ho; exact .inl ⟨1,lv1,own1⟩
    ·rw[Ì _ q] at hj; rw[ñ _ _ q] at ho;exact .inl ⟨0,lv0,(q3 b).2 ⟨j,hj,ho⟩⟩
   ·exact .inr hx
  have hrE:=VX (g:=g) (D:=g.D) (Q:=g.Q) (M:=g.M) hd0 hidl hGs hb02 hgb (fun q=>@HR.globL _ g _ _ _ hH b0 q hb0L) hw3 (@gR _ (g.re g.G g.D g.Q g.M) _ _ _ _ _ _ hcr3) H3;refine⟨_,_,@Sim.mk _ g _ _ _ _ hfr3 (by show Se.t.length<=_; rw[hSt]; exact htl) (fun i=>VW (g:=g) (D:=g.D) (Q:=g.Q) (M:=g.M) hd0 hidl hGs hb02 (V3 i)) (HR.er hrE),⟨oss.1,oss.2.1,oss.2.2,sz3,fun b hb hn=>⟨keep3 b hb hn,?_⟩,fun i hi=>?_⟩,?_,fun j hj hd2=>?_,hke⟩
  ·rintro⟨j,hj,ho⟩
   by_cases q:j=id
   ·rw[q,Ê] at ho; cases ho; exact hn hb0L
   ·have hj:(lkB (å Se.h id (.cells (flat x.it.ct d))) j).live=true:=hj;rw[Ì _ q] at hj; rw[ñ _ _ q] at ho;exact q6 b (by omega) hn ⟨j,hj,ho⟩
  ·show(lkB S.h i).next ν _ i (lkB (å Se.h id (.cells (flat x.it.ct d))) i)
   by_cases q:i=id
   ·subst q;rw[Ù _ hidl,hl];exact⟨⟨_,rfl⟩,by rw[Ê,hν]⟩
   ·rw[Ì _ q];have z:=blk3 i hi q;have e:=ñ νe (.pointer (some ⟨b0,0,none⟩)) q;revert z
    cases lkB S.h i<;>intro z
    ·trivial
    ·exact⟨z.1,e.trans z.2⟩
    ·obtain⟨g',fz,xs',y1,y2,y3⟩:=z;exact⟨g',fz,xs',y1,y2,fun y4=>⟨e.trans (y3 y4).1,(y3 y4).2⟩⟩
    ·exact⟨z.1,e.trans z.2⟩
    ·obtain⟨g',xs',y1,y2,y3⟩:=z;exact⟨g',xs',y1,y2,fun y4=>⟨e.trans (y3 y4).1,(y3 y4).2⟩⟩
    ·exact z
    ·exact⟨z.1,e.trans z.2⟩
  ·show m<=(å Se.h id (.cells (flat x.it.ct d))).length;rw[Î]; omega
  ·obtain⟨hne,hde⟩:=dd3 j hj hd2;show lkB (å Se.h id (.cells (flat x.it.ct d))) j=.dead;rw[Ì _ hne]; exact hde
 ·have hbt:Nat.blt id x.pin=false:=by
   cases hq:Nat.blt id x.pin with
   |false=>rfl
   |true=>exact absurd (cD hq) hip
  rw[hbt] at hke;have KGl:ŷ (g.re G2 [] none 0) νe Se.h W3 g.G W3:=ŷ.less hGs;refine⟨νe,Se,@Sim.mk _ g _ _ _ _ hfr3 (by rw[hSt]; exact htl) (fun i=>VR.step (g:=g.re G2 [] none 0) (D:=g.D) (Q:=g.Q) (M:=g.M) KGl (V3 i)) (HR.step (g:=g.re G2 [] none 0) (D:=g.D) (Q:=g.Q) (M:=g.M) KGl (fun b hb=>by have:=(hG b hb).2.2; omega) (fun b hb hg=>(hG b hg).2.1 ((q3 b).2 hb)) H3),⟨oss.1,oss.2.1,oss.2.2,sz3,fun b hb hn=>⟨keep3 b hb hn,q6 b (by omega) hn⟩,fun i hi=>blk3 i hi (by omega)⟩,by omega,fun j hj hd2=>(dd3 j hj hd2).2,hke⟩
end
end
end Go.Am
end

noncomputable section
namespace Go.Am
variable [Globs] [Í]
section
variable {ρ:Type} {ν ν':Nat->Value} {h h':NO Blk} {w w':World} {P:Program}
structure č (ρ:Type) where
 path:NO Nat
 fid:Nat
 bid:Nat
 L:Ç
 bF:Val (tyL L.cs)->Val (tyL L.vs)->(Val (tyL L.vs)->Nm ρ)->((i:Nat)->Val (tyL (L.zs i))->Nm ρ)->Nm ρ
def eqL:NO Nat->NO Nat->Bool
 |[],[]=>true
 |a::l,b::m=>Nat.beq a b&&eqL l m
 |_,_=>false
def Si (S:St):NO (č ρ)->NO Nat->Nat->Nat->Nm (č ρ)
 |[],_,_,_=>none
 |x::l,path,fid,bid=>match Nat.beq x.bid bid&&(Nat.beq x.fid fid&&(eqL x.path path&&fitsS x.L S)) with
  |true=>some x
  |false=>Si S l path fid bid
def ŵ (tab:NO (č ρ)) (path:NO Nat) (fid bid m:Nat) (S:St) (K:Exit->St->Nm ρ):Nm ρ :=
 match Si S tab path fid bid with
 |some x=>NR x.L x.bF m S K
 |none=>none
structure JEnt where
 path:NO Nat
 fid:Nat
 rid:Nat
 pin:Nat
 tpl:Tpl
 vs:NO Ty
def JB:NO (Nat×ö)->Nat->Nm ö
 |[],_=>none
 |x::l,f=>match Nat.beq x.1 f with
  |true=>some x.2
  |false=>JB l f
structure č.Ok (E:Env ρ) (x:č ρ):Prop where
 one:(((Θ E.P x.fid).elim [] (Ú 0)).filter fun y=>Nat.beq y.1 x.bid).length=1
 law:∀p v kn kx,goC E (Η E (10-x.path.length / 2)) x.fid x.path x.L.pin x.bid (xx (Θ E.P x.fid) x.bid) (é x.L.head x.L.cs x.L.vs p v) (NH x.L kn kx)=x.bF p v (kn p) (fun i=>kx i p)
omit [Í] in
def MN:∀{l m:NO Nat},eqL l m=true->l=m
 |[],[],_=>rfl
 |a::l,b::m,h=>by
  simp only[eqL,bH] at h;rw[bM h.1,MN h.2]
 |[],_::_,h=>by cases h
 |_::_,[],h=>by cases h
omit [Í] in
def zn:∀{tab:NO (č ρ)} {path:NO Nat} {fid bid:Nat} {S:St} {x:č ρ},Si S tab path fid bid=some x->x∈tab/\x.path=path/\x.fid=fid/\x.bid=bid
 |[],_,_,_,_,_,h=>by cases h
 |y::tab,path,fid,bid,S,x,h=>by
  unfold Si at h
  split at h
  ·rename_i hb;simp only[bH] at hb;cases h;exact⟨by simp,MN hb.2.2.1,bM hb.2.1,bM hb.1⟩
  ·obtain⟨h1,h2⟩:=zn h;exact⟨by simp[h1],h2⟩
omit [Í] in
def HV:∀{tab:NO (Nat×ö)} {f:Nat} {p:ö},JB tab f=some p->(f,p)∈tab
 |[],_,_,h=>by cases h
 |y::tab,f,p,h=>by
  unfold JB at h
  split at h
  ·rename_i hb;cases h;rw[<-bM hb]; simp
  ·exact eS _ (HV h)
omit [Í] in
def ħ:∀(c:Code) (b0:Nat) {bid:Nat} {b:LI},(bid,b)∈Ú b0 c->∀y∈b.loops bid,y∈Ú b0 c
 |.seq c d,b0,bid,b,h,y,e=>by
  simp only[Ú,bJ] at h ⊢;exact h.imp (fun h=>ħ c b0 h y e) (fun h=>ħ d b0 h y e)
 |.cond _ c d,b0,bid,b,h,y,e=>by
  simp only[Ú,bJ] at h ⊢;exact h.imp (fun h=>ħ c b0 h y e) (fun h=>ħ d b0 h y e)
 |.block id c,b0,bid,b,h,y,e=>by
  simp only[Ú] at h ⊢;exact ħ c id h y e
 |.loop c,b0,bid,b,h,y,e=>by
  simp only[Ú,bL,Prod.mk.injEq] at h ⊢;rcases h with⟨rfl,rfl⟩|h
  ·exact .inr e
  ·exact .inr (ħ c b0 h y e)
 |.skip,_,_,_,h,_,_=>by cases h
 |.region ..,_,_,_,h,_,_=>by cases h
 |.exit _,_,_,_,h,_,_=>by cases h
 |.ret,_,_,_,h,_,_=>by cases h
 |.label _,_,_,_,h,_,_=>by cases h
 |.goto _,_,_,_,h,_,_=>by cases h
 |.rangeFunc g ps c d,b0,bid,b,h,y,e=>by
  simp only[Ú,bL,bJ,Prod.mk.injEq] at h ⊢;rcases h with⟨rfl,rfl⟩|h|h
  ·exact .inr (bJ.1 e)
  ·exact .inr (.inl (ħ c b0 h y e))
  ·exact .inr (.inr (ħ d b0 h y e))
 |.scope c,b0,bid,b,h,y,e=>by
  simp only[Ú] at h ⊢;exact ħ c b0 h y e
 |.refuse _,_,_,_,h,_,_=>by cases h
def LI.sz:LI->Nat
 |.lp b=>SizeOf.sizeOf b
 |.rf _ _ a b=>SizeOf.sizeOf a+SizeOf.sizeOf b
omit [Í] in
def ā:∀(c:Code) (b0:Nat) {bid:Nat} {b:LI},(bid,b)∈Ú b0 c->b.sz<SizeOf.sizeOf c
 |.seq c d,b0,bid,b,h=>by
  simp only[Ú,bJ] at h;rcases h with h|h
  ·have:=ā c b0 h; simp; omega
  ·have:=ā d b0 h; simp; omega
 |.cond _ c d,b0,bid,b,h=>by
  simp only[Ú,bJ] at h;rcases h with h|h
  ·have:=ā c b0 h; simp; omega
  ·have:=ā d b0 h; simp; omega
 |.block id c,b0,bid,b,h=>by
  have:=ā c id h; simp; omega
 |.loop c,b0,bid,b,h=>by
  simp only[Ú,bL,Prod.mk.injEq] at h;rcases h with⟨rfl,rfl⟩|h
  ·simp[LI.sz]
  ·have:=ā c b0 h; simp; omega
 |.skip,_,_,_,h=>by cases h
 |.region ..,_,_,_,h=>by cases h
 |.exit _,_,_,_,h=>by cases h
 |.ret,_,_,_,h=>by cases h
 |.label _,_,_,_,h=>by cases h
 |.goto _,_,_,_,h=>by cases h
 |.rangeFunc g ps c d,b0,bid,b,h=>by
  simp only[Ú,bL,bJ,Prod.mk.injEq] at h;rcases h with⟨rfl,rfl⟩|h|h
  ·simp[LI.sz]; omega
  ·have:=ā c b0 h; simp; omega
  ·have:=ā d b0 h; simp; omega
 |.scope c,b0,bid,b,h=>by
  have:=ā c b0 h; simp; omega
 |.refuse _,_,_,_,h=>by cases h
def YW (E:Env ρ) (n:Nat):Prop:=∀[Í],Ţ E->f8 E (22-2*n) (Η E n)
def zI (E:Env ρ):Prop:=∀n,n<=10->YW E n->∀[Í],Ţ E->∀(path:NO Nat) (f:Nat) (fn:Func) (c:Code),path.length+2=22-2*n->E.P.funcs[f]?=some fn->fn.body=some c->∀x∈Ú 0 c,gw E path f x.1 x.2
omit [Í] in
def rj {c:Code} {bid:Nat} {b:LI} (i:((Ú 0 c).filter fun y=>Nat.beq y.1 bid).length=1) (m:(bid,b)∈Ú 0 c):uI (some c) bid=b:=by
 have d:(bid,b)∈(Ú 0 c).filter fun y=>Nat.beq y.1 bid:=List.mem_filter.2 ⟨m,by simp⟩;obtain⟨z,l⟩:=List.length_eq_one_iff.1 i;rw[l,List.mem_singleton] at d;unfold uI;simp only
 cases e:(Ú 0 c).find? fun y=>y.1==bid with
 |none =>
  have:=cR.1 e _ m;simp at this
 |some y =>
  have k:=List.mem_of_find?_eq_some e;have j:=fc e;have:y∈(Ú 0 c).filter fun y=>Nat.beq y.1 bid:=dW.2 ⟨k,by simpa using j⟩;rw[l,bK] at this;rw[this,<-d]
def U6:NO (Nz ρ)->NO Nat->Nat->Nat->Nm (Nz ρ)
 |[],_,_,_=>none
 |x::l,path,fid,bid=>match Nat.beq x.bid bid&&(Nat.beq x.fid fid&&eqL x.path path) with
  |true=>some x
  |false=>U6 l path fid bid
def iG (tab:NO (Nz ρ)) (path:NO Nat) (fid bid m:Nat) (g:AV) (S:St) (K:Exit->St->Nm ρ):Nm ρ :=
 match U6 tab path fid bid with
 |some x=>rngK x m g S K
 |none=>none
omit [Í] in
def HU:∀{tab:NO (Nz ρ)} {path:NO Nat} {fid bid:Nat} {x:Nz ρ},U6 tab path fid bid=some x->x∈tab/\x.path=path/\x.fid=fid/\x.bid=bid
 |[],_,_,_,_,h=>by cases h
 |y::tab,path,fid,bid,x,h=>by
  unfold U6 at h
  split at h
  ·rename_i hb;simp only[bH] at hb;cases h;exact⟨by simp,MN hb.2.2,bM hb.2.1,bM hb.1⟩
  ·obtain⟨h1,h2⟩:=HU h;exact⟨by simp[h1],h2⟩
def Rg:LI->Bool
 |.rf _ ps _ _=>match ps.toList with
  |[_]=>true
  |_=>false
 |_=>true
omit [Í] in
def Uu {E:Env ρ} (hmix:E.P.follows .mixedOrders=true) {tab:NO (č ρ)} (X:E.loops=ŵ tab) (U:∀x∈tab,x.Ok E) {rtab:NO (Nz ρ)} (hR:E.ranges=iG rtab) (B:∀x∈rtab,x.Ok E) (R:∀x∈rtab,Rg (uI (Θ E.P x.fid) x.bid)=true):zI E:=by
 intro n hn k g0 l path f fn c hp hf hc
 have s:Θ E.P f=some c:=by simp only[Θ,hf,hc]
 have G:∀(N:Nat) (x:Nat×LI),x.2.sz<N->x∈Ú 0 c->∀[Í],Ţ E->gw E path f x.1 x.2:=by
  intro N
  induction N with
  |zero=>intro x h; omega
  |succ N ih =>
   intro⟨bid,b⟩ hN u
   have F:∀y∈b.loops bid,y.2.sz<N:=fun y l=>by
    cases b with
    |lp b=>have:=ā b bid (bid:=y.1) (b:=y.2) l; simp only[LI.sz] at hN; omega
    |rf gop ps A Bd =>
     simp only[LI.sz] at hN;rcases bJ.1 l with l|l
     ·have:=ā A bid (bid:=y.1) (b:=y.2) l; omega
     ·have:=ā Bd bid (bid:=y.1) (b:=y.2) l; omega
   have C:∀[Í],Ţ E->∀y∈b.loops bid,gw E path f y.1 y.2:=fun I y l=>ih y (F y l) (ħ c 0 u y l) I;intro g1 o
   cases b with
   |lp b =>
    intro m S K r ν a w e H V;rw[X] at e;unfold ŵ at e
    cases j:Si S tab path f bid with
    |none =>
     rw[j] at e;cases e
    |some x =>
     obtain⟨h1,h2,Z,Y⟩:=zn j;obtain⟨i,d⟩:=U x h1;subst Z Y;rw[s] at i d;simp only[Option.elim] at i
     have hb:xx (some c) x.bid=b:=by unfold xx; rw[rj i u]
     rw[hb] at d
     have hd:10-x.path.length / 2=n:=by rw[h2]; omega
     rw[hd,h2] at d;rw[<-h2] at d;rw[j] at e;exact Qh (path:=x.path) oe (k o) (iA hmix _ _ (k o)) (by rw[h2]; omega) (by rw[h2]; exact C o) x.L x.bF (fun p v kn kx=>d p v kn kx) e H V
   |rf gop ps A Bd =>
    intro m S K r ν a w e H V;rw[hR] at e;unfold iG at e
    cases j:U6 rtab path f bid with
    |none =>
     rw[j] at e;cases e
    |some x =>
     obtain⟨h1,h2,Z,Y⟩:=HU j;obtain⟨i,W,J,O,d⟩:=B x h1;have q:=R x h1;subst Z Y;rw[s] at i d q;simp only[Option.elim] at i;rw[rj i u] at d q
     have hd:10-x.path.length / 2=n:=by rw[h2]; omega
     rw[hd] at d;rw[j] at e
     have T:∃p0,ps.toList=[p0]:=by
      simp only[Rg] at q
      split at q
      ·exact⟨_,‹_›⟩
      ·cases q
     exact TI (x:=x) k (fun X=>iA hmix _ _ X) (by rw[h2]; omega) o (fun l z hz=>by rw[h2]; exact C l z hz) W J O d T (k o).plain e H V
 exact fun x u=>G _ x (fA _) u l
omit [Í] in
def Qf {E:Env ρ} (hmix:E.P.follows .mixedOrders=true) {tab:NO (č ρ)} (d:E.loops=ŵ tab) (b:∀x∈tab,x.Ok E) (c:E.ranges=iG []):zI E :=
 Uu hmix d b c (fun _ h=>by cases h) (fun _ h=>by cases h)
structure Yf where
 path:NO Nat
 fid:Nat
 bid:Nat
 n:Nat
def XE:NO Yf->NO Nat->Nat->Nat->Nm Yf
 |[],_,_,_=>none
 |x::l,path,fid,bid=>match Nat.beq x.bid bid&&(Nat.beq x.fid fid&&eqL x.path path) with
  |true=>some x
  |false=>XE l path fid bid
def Qg (b:Env ρ) (us:NO Yf) (path:NO Nat) (fid bid m:Nat) (S:St) (K:Exit->St->Nm ρ):Nm ρ :=
 match XE us path fid bid with
 |some u=>Ii (fun S K=>goC b (Η b (10-u.path.length / 2)) u.fid u.path m u.bid (xx (Θ b.P u.fid) u.bid) S K) u.n S K
 |none=>b.loops path fid bid m S K
omit [Í] in
def HT:∀{tab:NO Yf} {path:NO Nat} {fid bid:Nat} {x:Yf},XE tab path fid bid=some x->x∈tab/\x.path=path/\x.fid=fid/\x.bid=bid
 |[],_,_,_,_,h=>by cases h
 |y::tab,path,fid,bid,x,h=>by
  unfold XE at h
  split at h
  ·rename_i hb;simp only[bH] at hb;cases h;exact⟨by simp,MN hb.2.2,bM hb.2.1,bM hb.1⟩
  ·obtain⟨h1,h2⟩:=HT h;exact⟨by simp[h1],h2⟩
def zM {E:Env ρ} {call:NO Nat->Bool->Nat->NO AV->NO Blk->(AV->NO Blk->Nm ρ)->Nm ρ} {N:Nat} (G:f8 E N call) (I:kW E N call) {fid bid m:Nat} {path:NO Nat} (s:path.length+2=N) {b:Code}
 (A:∀x∈Ú bid b,gw E path fid x.1 x.2) {K:Exit->St->Nm ρ} {r:ρ} {q:NO Blk} {o:Nat->Value} {u:World}:∀(n:Nat) (S:St) (ν:Nat->Value) (a:Act) (w:World),Ii (fun S K=>goC E call fid path m bid b S K) n S K=some r->Sim ν S a w->m<=S.h.length->Ev m o q u ν S.h w->Dd m q S.h ->
  Code.roundsIn fen 0 E.P b (Nv m o q u K r) n a w
 |0,S,ν,a,w,e,_,_,_,_=>by cases e
 |n+1,S,ν,a,w,e,H,J,ev,dd=>by
  rw[roundsIn_succ];simp only[Ii] at e;refine wpIn_mono (kK G I s b bid S _ ν a w A e H J) fun x B z ha=>?_;obtain⟨c,j,y,C,k,F,v⟩:=ha;have d:=ev.trans C (bE m);have i:=dd.trans F (bE m)
  cases x with
  |normal=>exact zM G I s A n j c B z v y k d i
  |exit id=>exact⟨c,j,y,d,k,i,v⟩
  |ret=>exact⟨c,j,y,d,k,i,v⟩
  |goto l=>exact⟨c,j,y,d,k,i,v⟩
  |panic ch=>exact⟨c,j,y,d,k,i,v⟩
  |outgrown=>exact⟨c,j,y,d,k,i,v⟩
omit [Í] in
def Uv {E i:Env ρ} (l:∀[Í],Ţ i->BG i) (B:i.P=E.P) (C:i.yld=none) (G:E.ranges=iG []) (hmix:i.P.follows .mixedOrders=true) (v:zI i) {us:NO Yf} (J:E.loops=Qg i us)
 (s:∀u∈us,(((Θ E.P u.fid).elim [] (Ú 0)).filter fun y=>Nat.beq y.1 u.bid).length=1):zI E:=by
 intro n I _ Z _ path f fn c N R T;have j:=pc l (fun L call J=>iA hmix L call J) v;have q:Ţ i:=ju C;have k:=j n I q;have o:kW i (22-2*n) (Η i n):=iA hmix _ _ k;have z:=v n I (j n I) q path f fn c N (B▸R) T
 have d:Θ E.P f=some c:=by simp only[Θ,R,T]
 intro⟨bid,b⟩ F
 cases b with
 |rf gop ps A Bd =>
  intro m S K r ν a w e;rw[G] at e;cases e
 |lp b =>
 intro m S K r ν a w e H O;rw[J] at e;unfold Qg at e
 split at e
 ·rename_i u Y;obtain⟨h1,h2,W,V⟩:=HT Y
  have hd:10-u.path.length / 2=n:=by rw[h2]; omega
  have U:=s u h1;rw[W,V,d] at U
  have hb:xx (some c) bid=b:=by unfold xx; rw[rj U F]
  rw[hd,h2,W,V,B,d,hb] at e;have:=zM k o N (fun y X=>z y (ħ c 0 F y X)) u.n S ν a w e H O (Ev.refl _ _ _ _) (Dd.refl _ _);rw[B] at this;exact wpIn_loop_rounds u.n this
 ·have:=z (bid,.lp b) F m S K r ν a w e H O
  rwa [B] at this
def IL (H:HR ν h w) {c:AV} {u:Value} (d:VR1 ν h w c u):VRs w Í.G (î h c) u:=pV H (fun b hb=>.inr hb) d fun id b _ e hb=>H.ghne id b e hb
def TT (H:HR ν h w) {id:Nat} {cs:NO AV} (e:lkB h id=.cells cs):(∀b,Ċ (ν id) b->¬Í.G b)/\∀c∈cs,∀u,VR1 ν h w c u->VRs w Í.G (î h c) u :=
 ⟨fun b hb=>H.ghne id b (by rw[e]; rfl) hb,fun _ _ _ d=>IL H d⟩
def ì.up2:∀{as:NO AV} {vs:NO Value},ì (Go.Am.VR2 ν h w) as vs->ì (Go.Am.VR ν h w) as vs
 |[],[],_=>trivial
 |_::_,_::_,h=>⟨h.1.up,ì.up2 h.2⟩
 |[],_::_,h=>h.elim
 |_::_,[],h=>h.elim
def Pw (H:HR ν h w):∀(l:NO Ty) {x:Val (tyL l)} {v:AV} {u:Value},VR ν h w v u->Za l h v=some x->RR w Í.G l x u
 |[],_,_,_,_,e=>by cases e
 |[t],x,v,u,d,e=>J3 H d (fun _ _ _ i=>IL H i) (fun _ _ _ c=>TT H c) (fun id _ _ c b hb=>H.ghne id b c hb) e
 |t::u'::l,x,v,u,d,e=>by
  cases v with
  |tup as =>
   obtain⟨us,rfl,h2⟩:=d;exact⟨us,rfl,Fc H (u'::l) t x as us.toList h2.up2 (fun _ _ _ _ _ i=>IL H i) (fun _ _ _ _ _ c=>TT H c) (fun _ _ id _ _ c b hb=>H.ghne id b c hb) e⟩
  |_=>cases e
def AT.mono {G d:Nat->Prop} (c:∀b,d b->G b):∀{l:NO Ty} {t:Ty} {x:Val (tys t l)} {vs:NO Value},AT w G l t x vs->AT w d l t x vs
 |[],t,x,vs,⟨v,h1,h2⟩=>⟨v,h1,h2.mono c⟩
 |u::l,t,x,vs,⟨v,vs',h1,h2,e⟩=>⟨v,vs',h1,h2.mono c,AT.mono c e⟩
def AL.mono {G c:Nat->Prop} (d:∀b,c b->G b):∀{l:NO Ty} {x:Val (tyL l)} {vs:NO Value},AL w G l x vs->AL w c l x vs
 |[],_,_,h=>h
 |_::_,_,_,h=>AT.mono d h
def AL.VR:∀{l:NO Ty} {x:Val (tyL l)} {vs:NO Value},AL w (Av ν h) l x vs->ì (VR ν h w) (Ov l x) vs
 |[],_,_,h=>by cases h; trivial
 |_::_,_,_,h=>AT.VR h
end
omit [Í] in
def Iv {f:Nat} {p:ö} (E:Env (Val (tyL p.rs))) (d:∀[Í],BG E) (hmix:E.P.follows .mixedOrders=true) (hl:zI E) (law:Cr p E f):Ő E.P f p:=by
 intro G x y C w vals B l q
 letI g:Í:=Gh G
 have o:=law x;rw[C] at o;unfold topK at o;have hy:∀[Í],Ţ E:=BG.yld d;have hall:∀n,n<=10->YW E n:=pc (fun _=>d) (fun L call F=>iA hmix L call F) hl;have j:∀M,@f8 _ (g.re g.G [] none M) _ E 2 (Η E 10):=fun M=>@hall 10 (Nat.le_refl _) (g.re g.G [] none M) (@hy _);have H:HR (fun _=>undef) [] w:=⟨fun _=>trivial,fun _ _ _ h=>(by cases h),B,fun _ _ h=>(by cases h),l,fun _ _ ⟨_,h,_⟩=>(by cases h)⟩;have m:∀b,Av (fun _=>undef) [] b->G b:=fun b hb=>hb.elim (fun⟨_,h,_⟩=>by cases h) id;have i:ì (VR (fun _=>undef) [] w) (Ov p.ts x) vals:=AL.VR (q.mono m);obtain⟨h1,h2⟩:=EO j (fun M=>@iA _ (g.re g.G [] none M) _ _ hmix _ _ (j M)) (path:=[]) rfl (fun M fn c z A=>@hl 10 (Nat.le_refl _) (hall 10 (Nat.le_refl _)) (g.re g.G [] none M) (@hy _) [] f fn c rfl z A) o H (Nat.zero_le _) i;refine⟨h1,h2.mono fun e w' s=>?_⟩;obtain⟨ν',h',v,u,rfl,K,J,k,O,N,I⟩:=s;refine⟨u,rfl,Pw J _ K I,fun b hb=>(k.keep b hb fun⟨_,h,_⟩=>by cases h).1,k.size,k.os,k.tape,k.output⟩
omit [Í] in
def Iu {f:Nat} {p:ö} (E:Env (Val (tyL p.rs))) (b:∀[Í],BG E) (hmix:E.P.follows .mixedOrders=true) {tab:NO (č (Val (tyL p.rs)))} (e:E.loops=ŵ tab) (c:∀x∈tab,x.Ok E) (law:Cr p E f) (d:E.ranges=iG []:=by rfl):Ő E.P f p :=
 Iv E b hmix (Qf hmix e c d) law
omit [Í] in
def TK {f:Nat} {p:ö} (E c:Env (Val (tyL p.rs))) (e:∀[Í],BG E) (b:∀[Í],BG c) (l:c.P=E.P) (hmix:E.P.follows .mixedOrders=true) {tab:NO (č (Val (tyL p.rs)))} (h0:c.loops=ŵ tab) (j:∀x∈tab,x.Ok c) {us:NO Yf} (n:E.loops=Qg c us)
 (d:∀u∈us,(((Θ E.P u.fid).elim [] (Ú 0)).filter fun y=>Nat.beq y.1 u.bid).length=1) (law:Cr p E f) (k:c.ranges=iG []:=by rfl) (m:E.ranges=iG []:=by rfl) (i:c.yld=none:=by rfl):Ő E.P f p :=
 Iv E e hmix (Uv (fun _=>b) l i m (l▸hmix) (Qf (l▸hmix) h0 j k) n d) law
omit [Í] in
def mR {p:ö} {E:Env (Val (tyL p.rs))} {f:Nat} (h:∀x:Val (tyL p.ts),topK E f (Ov p.ts x) (fun h v=>Â (Za p.rs h v) some)=p.F x):Cr p E f:=fun x=>by
 rw[<-h x];congr 1;funext h v;unfold Â
 cases Za p.rs h v<;>rfl
omit [Í] in
def Ã {α:Type} {Q:α->Prop}:∀x∈([]:NO α),Q x:=fun _ h=>by cases h
omit [Í] in
def Á {α:Type} {Q:α->Prop} {a:α} {l:NO α} (h:Q a) (c:∀x∈l,Q x):∀x∈a::l,Q x:=fun x b=>by
 rcases bL.1 b with rfl|b
 ·exact h
 ·exact c x b
@[reducible] def Gk (G:Nat->Prop) (D:NO Deferred) (Q:Nm Nat):Í:=⟨G,D,Q,0,0,0,.unit,fun _ _ _ _=>False,fun _ _ _ _ _ _ h=>h.elim⟩
end Go.Am
end

noncomputable section
namespace Go.Am
open Go.ChangeShapes Go.WideShapes Go.ChangeAt Go.RowKit
abbrev ZB:Nat->Prop:=fun _=>False
def Rng:(t:Ty)->Val t->Prop
 |.int .i64,n=>-9223372036854775808<=(n:Int)/\(n:Int)<=9223372036854775807
 |.pair a b,x=>Rng a (x:Val a×Val b).1/\Rng b (x:Val a×Val b).2
 |.slice t,l=>∀x∈(l:NO (Val t)),Rng t x
 |_,_=>True
mutual
def WD (P:Program):Nat->Ty->TypeId->Bool
 |0,_,_=>false
 |n+1,τ,t =>
  match P.underlying t with
  |some .bool=>match τ with
   |.bool=>true
   |_=>false
  |some (.int k)=>match τ with
   |.int b=>k==b
   |_=>false
  |some .string=>match τ with
   |.str=>true
   |_=>false
  |some (.slice e)=>match τ with
   |.slice u=>WD P n u e&&(Nat.beq (P.cellsOf e) u.size&&Nat.ble 1 u.size)
   |_=>false
  |some (.struct fs)=>Nat.beq (P.cellsOf t) τ.size&&(τ.isAgg&&fieldsAre P n τ 0 fs.toList)
  |_=>false
def fieldsAre (P:Program):Nat->Ty->Nat->NO Field->Bool
 |0,_,_,_=>false
 |n+1,τ,off,[f]=>Nat.beq f.offset off&&(Nat.beq (P.cellsOf f.type) τ.size&&WD P n τ f.type)
 |n+1,.pair a b,off,f::g::fs=>Nat.beq f.offset off&&(Nat.beq (P.cellsOf f.type) a.size&&(WD P n a f.type&&fieldsAre P n b (off+a.size) (g::fs)))
 |_,_,_,_=>false
end
def IZ {α β:Type} {f:α->Nm β}:∀{l:NO α} {ys:NO β},l.mapM f=some ys->∀a∈l,∃y,f a=some y
 |[],ys,_,a,ha=>by cases ha
 |b::l,ys,h,a,ha=>by
  rw[List.mapM_cons] at h
  cases hb:f b with
  |none=>rw[hb] at h; cases h
  |some y =>
   rw[hb] at h
   cases c:l.mapM f with
   |none=>simp[c] at h
   |some zs =>
    rcases bL.1 ha with rfl|ha
    ·exact⟨y,hb⟩
    ·exact IZ c a ha
def ET {α:Type} {Q:Nat->α->Prop}:∀n:Nat,(∀i,i<n->∃x,Q i x)->∃xs:NO α,xs.length=n/\∀i x,xs[i]?=some x->Q i x
 |0,_=>⟨[],rfl,fun i x h=>by simp at h⟩
 |n+1,h=>by
  obtain⟨xs,h1,h2⟩:=ET n fun i hi=>h i (by omega);obtain⟨x,c⟩:=h n (by omega);refine⟨xs++[x],by simp[h1],fun i y b=>?_⟩;rcases ce i n with hi|hi
  ·rw[fe (by omega)] at b; exact h2 i y b
  ·rw[eT (by omega),h1] at b
   have:i=n:=by
    rcases ce 0 (i-n) with h0|h0
    ·rw[List.getElem?_eq_none (by simp; omega)] at b; cases b
    ·omega
   subst this;simp at b;rw[<-b]; exact c
section
variable {H:Type} {enc:TypeId×Value->H} {P:Program} {w:World} {sp:Nat->Bool} {held:Bool}
def XT {base:Nat} {a:Addr} {n:Nat} {cs:NO Value} (h:w.cells? base a n=some cs) (c:a.spot=none):ĕ w a.block a.off cs:=by
 obtain⟨_,k,i⟩:=World.cells?_some h;intro j v d;have e:j<cs.length:=(bN.1 d).1;have:=i j (by omega);rw[d] at this;rw[<-this];congr 1;obtain⟨b,o,s⟩:=a;simp only at c;subst c;exact(add_plain b o j).symm
def QX (enc:TypeId×Value->H) (P:Program) (w:World) (sp:Nat->Bool) (held:Bool) (n:Nat):Prop :=
 ∀(τ:Ty) (t:TypeId) (b:Nat) (cs:NO Value) (d:DataW H) (ps:NO MemPlace),WD P n τ t=true->DataW.trod enc P w 0 sp held b t cs=some (d,ps)->∃x:Val τ,CR w ZB τ x cs/\Rng τ x
def Cf (enc:TypeId×Value->H) (P:Program) (w:World) (sp:Nat->Bool) (held:Bool) (n:Nat):Prop :=
 ∀(τ:Ty) (off:Nat) (fs:NO Field) (b:Nat) (cs:NO Value),fieldsAre P n τ off fs=true->(∀f∈fs,∃y,DataW.trod enc P w 0 sp held b f.type ((cs.drop f.offset).take (P.cellsOf f.type))=some y)->cs.length=off+τ.size->∃x:Val τ,CR w ZB τ x (cs.drop off)/\Rng τ x
set_option maxHeartbeats 1000000 in
def Tj {n:Nat} (A:QX enc P w sp held n) (B:Cf enc P w sp held n):QX enc P w sp held (n+1):=by
 intro τ t j cs d ps h e
 cases j with
 |zero=>simp[DataW.trod] at e
 |succ j =>
  unfold WD at h;unfold DataW.trod at e
  split at h
  ·-- bool
   rename_i q;rw[q] at e
   cases τ<;>try (cases h; done)
   rcases cs with _|⟨c,_|⟨U,cs⟩⟩<;>try first|(cases e; done)|(simp at e; done)
   cases c<;>try (cases e; done)
   rename_i b;exact⟨(show Val .bool from b),rfl,trivial⟩
  ·-- int
   rename_i k q;rw[q] at e
   cases τ<;>try (cases h; done)
   rename_i k'
   have hk:k=k':=by simpa using h
   subst hk
   rcases cs with _|⟨c,_|⟨U,cs⟩⟩<;>try first|(cases e; done)|(simp at e; done)
   cases c<;>try (cases e; done)
   rename_i X m;simp only at e
   split at e<;>try (cases e; done)
   rename_i L;obtain⟨rfl,E⟩:=L;refine⟨(show Val (.int X) from m),rfl,?_⟩
   cases X<;>try trivial
   simp only[Lit.wf,bH,decide_eq_true_eq] at E;exact E
  ·-- string
   rename_i q;rw[q] at e
   cases τ<;>try (cases h; done)
   rcases cs with _|⟨c,_|⟨U,cs⟩⟩<;>try first|(cases e; done)|(simp at e; done)
   cases c<;>try (cases e; done)
   rename_i s;exact⟨(show Val .str from s),rfl,trivial⟩
  ·-- slice
   rename_i v q;rw[q] at e
   cases τ<;>try (cases h; done)
   rename_i u;simp only[bH] at h;obtain⟨h1,h2,h3⟩:=h;have F:P.cellsOf v=u.size:=bM h2;have Y:1<=u.size:=cD h3
   rcases cs with _|⟨c,_|⟨U,cs⟩⟩<;>try first|(cases e; done)|(simp at e; done)
   cases c<;>try (cases e; done)
   rename_i base len cap
   cases base with
   |none =>
    cases len<;>cases cap<;>try (cases e; done)
    exact⟨(show Val (.slice u) from[]),⟨none,0,rfl,bE _,.inl rfl⟩,fun x K=>by cases K⟩
   |some a =>
    simp only at e
    split at e<;>try (cases e; done)
    rename_i hb
    cases G:(List.range len).mapM (fun i=>(w.cells? 0 (a.add (i*P.cellsOf v)) (P.cellsOf v)).bind (DataW.trod enc P w 0 sp held j v)) with
    |none=>rw[G] at e; cases e
    |some ZJ =>
     clear e
     have z:∀i,i<len->∃x:Val u,∃us,w.cells? 0 (a.add (i*P.cellsOf v)) (P.cellsOf v)=some us/\CR w ZB u x us/\Rng u x:=by
      intro i hi;obtain⟨y,J⟩:=IZ G i (List.mem_range.2 hi)
      cases L:w.cells? 0 (a.add (i*P.cellsOf v)) (P.cellsOf v) with
      |none=>rw[L] at J; cases J
      |some us =>
       rw[L] at J;obtain⟨d',N⟩:=y;obtain⟨x,g1,g2⟩:=A u v j us d' N h1 J;exact⟨x,us,rfl,g1,g2⟩
     obtain⟨xs,T,K⟩:=ET len z;refine⟨(show Val (.slice u) from xs),⟨some a,cap,by rw[T],by rw[T]; exact hb.2.1,?_⟩,fun x O=>?_⟩
     ·rcases dV len with h0|h0
      ·left; exact bT.1 (by rw[T,h0])
      ·right;obtain⟨x0,C,c0,_,_⟩:=z 0 h0;have I:=World.cells?_block c0 (by omega);obtain⟨_,l0,g0⟩:=World.cells?_some c0
       have l:a.spot=none:=by
        have h5:=g0 0 (by omega);obtain⟨V,S⟩:∃V,C[0]?=some V:=⟨C[0],bG (by omega)⟩;rw[S] at h5;simpa[Addr.add] using World.cell?_spot h5
       obtain⟨b,o,s⟩:=a;simp only at l;subst l;refine⟨b,o,rfl,id,by simpa[Addr.add] using I,fun i x R=>?_⟩;obtain⟨us,W,q2,_⟩:=K i x R;refine⟨us,q2,?_⟩;rw[add_plain] at W;have:=XT W rfl;rw[F] at this;exact this
     ·obtain⟨i,hi,rfl⟩:=bZ.1 O;obtain⟨us,_,_,g⟩:=K i _ (bG hi);exact g
  ·-- struct
   rename_i fs q;rw[q] at e;simp only[bH] at h;obtain⟨h1,_,h2⟩:=h;have F:P.cellsOf t=τ.size:=bM h1;simp only at e
   split at e<;>try (cases e; done)
   rename_i Z
   cases G:fs.toList.mapM (fun f=>DataW.trod enc P w 0 sp held j f.type ((cs.drop f.offset).take (P.cellsOf f.type))) with
   |none=>rw[G] at e; cases e
   |some xs =>
    have:=B τ 0 fs.toList j cs h2 (IZ G) (by omega);simpa using this
  ·cases h
def Ot {n:Nat} (A:QX enc P w sp held n) (B:Cf enc P w sp held n):Cf enc P w sp held (n+1):=by
 intro τ off fs c cs h k i;rcases fs with _|⟨f,_|⟨g,fs⟩⟩
 ·simp[fieldsAre] at h
 ·unfold fieldsAre at h;simp only[Bool.and_eq_true] at h;obtain⟨h1,h2,l⟩:=h;obtain⟨⟨d,ps⟩,e⟩:=k f (by simp);rw[Nat.eq_of_beq_eq_true h1,Nat.eq_of_beq_eq_true h2,List.take_of_length_le (by rw[List.length_drop]; omega)] at e;exact A τ f.type c _ d ps l e
 ·cases τ<;>try (simp[fieldsAre] at h; done)
  rename_i a b;unfold fieldsAre at h;simp only[Bool.and_eq_true] at h;obtain⟨h1,h2,l,u⟩:=h;obtain⟨⟨d,ps⟩,e⟩:=k f (by simp);rw[Nat.eq_of_beq_eq_true h1,Nat.eq_of_beq_eq_true h2] at e;obtain⟨x,s,q⟩:=A a f.type c _ d ps l e;simp only[Ty.size] at i;obtain⟨y,o,m⟩:=B b (off+a.size) (g::fs) c cs u (fun v j=>k v (by simp[j])) (by omega);refine⟨(show Val (.pair a b) from(x,y)),⟨_,_,?_,s,o⟩,q,m⟩;rw[<-List.drop_drop,List.take_append_drop]
def pU:∀n,QX enc P w sp held n/\Cf enc P w sp held n
 |0=>⟨fun τ t b cs d ps h _=>by simp[WD] at h,fun τ off fs b cs h _ _=>by simp[fieldsAre] at h⟩
 |n+1=>⟨Tj (pU n).1 (pU n).2,Ot (pU n).1 (pU n).2⟩
def Pe {n:Nat} {τ:Ty} {t:TypeId} {v:Value} {d:DataW H} {ps:NO MemPlace} {r:Reach} {base:Nat} (e:WD P n τ t=true) (h:DataW.Trod enc P w 0 sp held t v d ps) (c:Value.okWide P w r base t v):∃x:Val τ,Ř w ZB τ x v/\Rng τ x:=by
 obtain⟨j,l⟩:=h;obtain⟨x,h1,h2⟩:=(pU n).1 τ t j _ d ps e l;refine⟨x,⟨_,h1,?_⟩,h2⟩
 cases n with
 |zero=>simp[WD] at e
 |succ n =>
  unfold WD at e;unfold Value.okWide at c
  split at e
  ·rename_i b;rw[b] at c
   cases τ<;>try (cases e; done)
   simp only[Cell.okWide,b] at c
   cases v<;>simp_all[Cell.ok,Value.cells,pP,Ty.isAgg]
  ·rename_i k b;rw[b] at c
   cases τ<;>try (cases e; done)
   simp only[Cell.okWide,b] at c
   cases v<;>simp_all[Cell.ok,Value.cells,pP,Ty.isAgg]
  ·rename_i b;rw[b] at c
   cases τ<;>try (cases e; done)
   simp only[Cell.okWide,b] at c
   cases v<;>simp_all[Cell.ok,Value.cells,pP,Ty.isAgg]
  ·rename_i m b;rw[b] at c
   cases τ<;>try (cases e; done)
   simp only[Cell.okWide,b] at c
   cases v<;>simp_all[Cell.ok,Value.cells,pP,Ty.isAgg]
  ·rename_i fs b;rw[b] at c;obtain⟨cs,rfl,_,_⟩:=c;simp only[bH] at e;have i:τ.isAgg=true:=e.2.1;simp[pP,i,Value.cells]
  ·cases e
def tq (P:Program):NO Ty->NO TypeId->Bool
 |[],[]=>true
 |τ::l,t::ts=>WD P 40 τ t&&tq P l ts
 |_,_=>false
def Pf {r:Reach} {base:Nat}:∀(l:NO Ty) (τ:Ty) (t:TypeId) (ts:NO TypeId) (v:Value) (vs:NO Value) (k:NO (DataW H)) (ps:NO MemPlace),tq P (τ::l) (t::ts)=true->DataW.TrodAll enc P w 0 sp held (t::ts) (v::vs) k ps ->
 (∀(j:Nat) t' e,(t::ts)[j]?=some t'->(v::vs)[j]?=some e->Value.okWide P w r base t' e)->∃x:Val (tys τ l),AT w ZB l τ x (v::vs)/\Rng (tys τ l) x
 |l,τ,t,ts,v,vs,[],ps,_,h,_=>by cases h
 |[],τ,t,ts,v,vs,d::k,ps,c,h,i=>by
  obtain⟨p,q,h1,h2,_⟩:=h;simp only[tq,bH] at c
  have:ts=[]:=by cases ts with|nil=>rfl|cons=>simp[tq] at c
  subst this
  have m:vs=[]:=by cases vs with|nil=>rfl|cons=>exact h2.elim
  subst m;obtain⟨x,o,n⟩:=Pe c.1 h1 (i 0 t v rfl rfl);exact⟨x,⟨v,rfl,o⟩,n⟩
 |u::l,τ,t,ts,v,vs,d::k,ps,c,h,i=>by
  obtain⟨p,q,h1,h2,_⟩:=h;simp only[tq,bH] at c;obtain⟨x,o,n⟩:=Pe c.1 h1 (i 0 t v rfl rfl);rcases ts with _|⟨t2,ts⟩
  ·simp[tq] at c
  ·rcases vs with _|⟨s,vs⟩
   ·exact h2.elim
   ·obtain⟨y,A,z⟩:=Pf l u t2 ts s vs k q c.2 h2 fun j t' e a b=>i (j+1) t' e (by simpa using a) (by simpa using b);exact⟨(show Val (.pair τ (tys u l)) from(x,y)),⟨v,s::vs,rfl,o,A⟩,n,z⟩
def WN {r:Reach} {base:Nat} {l:NO Ty} {ts:NO TypeId} {vs:NO Value} {b:NO (DataW H)} {ps:NO MemPlace} (d:tq P l ts=true) (h:DataW.TrodAll enc P w 0 sp held ts vs b ps)
 (i:∀(j:Nat) t' e,ts[j]?=some t'->vs[j]?=some e->Value.okWide P w r base t' e):∃x:Val (tyL l),AL w ZB l x vs/\Rng (tyL l) x:=by
 rcases l with _|⟨τ,l⟩
 ·have:ts=[]:=by cases ts with|nil=>rfl|cons=>simp[tq] at d
  subst this
  have c:vs=[]:=by cases vs with|nil=>rfl|cons=>cases b<;>exact h.elim
  exact⟨(show Val .unit from()),c,trivial⟩
 ·rcases ts with _|⟨t,ts⟩
  ·simp[tq] at d
  ·rcases vs with _|⟨v,vs⟩
   ·cases b<;>exact h.elim
   ·exact Pf l τ t ts v vs b ps d h i
def vO (k:laidOutB P=true) {W l:World} (hb:Below W.heap.size W l):∀{ts:NO TypeId} {vs:NO Value} {j:NO (DataW H)} {ps:NO MemPlace},(ts.all fun t=>P.readableRec t&&decide (t<P.types.size))=true->DataW.TrodAll enc P W 0 (fun _=>true) true ts vs j ps->(∀x∈ps,x.block<W.heap.size) ->
 DataW.TrodAll enc P l 0 (fun b=>decide (b<W.heap.size)) true ts vs j ps
 |[],[],[],ps,_,h,_=>h
 |t::ts,v::vs,d::j,ps,e,h,c=>by
  obtain⟨p,q,h1,h2,rfl⟩:=h;simp only[dZ,bH,decide_eq_true_eq] at e;exact⟨p,q,Below.trod k e.1.1 e.1.2 h1 hb (fun x i=>c x (cn _ i)),vO k hb (by simpa using e.2) h2 (fun x i=>c x (cd _ i)),rfl⟩
 |[],[],_::_,_,_,h,_=>h.elim
 |[],_::_,_,_,_,h,_=>by cases ‹NO (DataW H)›<;>exact h.elim
 |_::_,[],_,_,_,h,_=>by cases ‹NO (DataW H)›<;>exact h.elim
 |_::_,_::_,[],_,_,h,_=>h.elim
def Cj {W:World}:∀{ts:NO TypeId} {vs:NO Value} {b:NO (DataW H)} {ps:NO MemPlace},DataW.TrodAll enc P W 0 sp held ts vs b ps->b.length=ts.length
 |[],[],[],_,_=>rfl
 |_::_,_::_,_::_,_,h=>by obtain⟨p,q,_,h2,_⟩:=h; simp[Cj h2]
 |[],[],_::_,_,h=>h.elim
 |[],_::_,b,_,h=>by cases b<;>exact h.elim
 |_::_,[],b,_,h=>by cases b<;>exact h.elim
 |_::_,_::_,[],_,h=>h.elim
end
def joined_of {P:Program} {f:FuncId} {fn:Func} {s:ChangeSpec} {c:OpenClaim} (h1:c.wf (OpenSpec.ofChange s)=true) (h2:laidOutB P=true) (U:mapsRowed P=true) (T:fn.params.all (P.readableRec ·)=true) (S:namedTie P c.named s.vars=true)
 (R:(c.stops==[])=true) (O:(P.stops==[])=true) (N:(c.knobs==[])=true) (L:(P.stopKnobs==[])=true) (K:(c.inPlace==P.inPlace f)=true) (J:(c.unfollowed==P.unfollowed f)=true) (I:(c.recurses==P.recurses f)=true) (G:(c.named==P.varsNamed f)=true)
 (F:(c.maps==(fn.params.toList++s.plain.varTypes P).any (P.mapsRec ·))=true) (E:(c.ifaces==(fn.params.toList++s.plain.varTypes P).any (P.ifacesRec ·))=true) (C:(c.mapsOut==P.mapsAmong fn.resultTypes.toList)=true)
 (B:(c.loops==(fn.params.toList++s.plain.varTypes P).any (P.loopsFrom ·))=true) (A:(c.wideKeys==(fn.params.toList++s.plain.varTypes P++fn.resultTypes.toList).any (P.wideKeysFrom ·))=true)
 (z:s.vars.all (P.varReadable ·)=true) (y:fn.resultTypes.all (fun t=>P.readableRec t&&decide (t<P.types.size))=true) (v:(c.ifacesOut==fn.resultTypes.toList.any (P.ifacesRec ·))=true) (u:(c.loopsOut==fn.resultTypes.toList.any (P.loopsFrom ·))=true)
 (q:(c.plainKeys==P.plainKeys)=true) (o:c.shortTexts.isNone=true) (n:P.stopsHeard=true) (m:P.mayEnter=true) (l:(c.lifted==P.liftsFinal)=true) (j:(P.make==some c.make)=true)
 (i:(c.kinds==(if c.domain.isEmpty then[] else fn.params.toList.map fun t=>match P.underlying t with|some (.int k)=>some k|_=>none))=true) (e:(c.pinned==c.pinnedBy)=true)
 (d:(c.veiled==(fn.params.toList++s.plain.varTypes P++fn.resultTypes.toList).any (P.veiledRec ·))=true) (b:c.veiledFits P fn.params.toList (fn.params.toList++s.plain.varTypes P++fn.resultTypes.toList)=true):joinedFacts P f fn s c=true:=by
 unfold joinedFacts;simp only[h1,h2,U,T,S,R,O,N,L,K,J,I,G,F,E,C,B,A,z,y,v,u,q,o,n,m,l,j,e,d,b,Bool.and_true];exact i
end Go.Am
end

noncomputable section
namespace Go.Am
open Go.ChangeShapes Go.WideShapes Go.ChangeAt Go.RowKit
section
variable {H:Type} {enc:TypeId×Value->H}
def law_laid [Globs] {C:Checked} {os:Os} {f:FuncId} {fn:Func} {sp:ChangeSpec} {F:Stop.Interp} {l:NO PathCond} {p:ö} {tb:TypeId} {k:NO (String×DataW Unit)}
 (L:∀W:World,laidMetH C.prog k W->W.ShapedOpen C.prog->Globs.Φ W)
 (own:ownKnob C.prog.godebug=none) (d:os.Started) (m:C.prog.inits.idxOf? f=none) (T:C.prog.funcs[f]?=some fn)
 (c:∃(w:World) (tape:Tape) (i:Input),w.os=os/\(w.forCall tape i).Shaped C.prog/\i.vars=[]/\Input.okWide C.prog (w.forCall tape i) .any w.heap.size f i /\
  (OpenSpec.ofChange sp).preRow enc C.prog fn l false k (w.forCall tape i).memory i.args/\({}:Assume).holds C.prog (lone (Frame.enter C.prog f i.args .normal) [] (w.forCall tape i)))
 (hp:Ő C.prog f p) (o:p.rs=[.bool]) (law:∀x:Val (tyL p.ts),Rng (tyL p.ts) x->p.F x=some (o▸(show Val (tyL [.bool]) from true))) (E:tq C.prog p.ts fn.params.toList=true) (G:sp.vars=[])
 (hs:∀b:NO (DataW H),b.length=fn.params.toList.length->sp.fn H b={results:=[.lit (.bool true)],args:=b}) (hl:laidOutB C.prog=true) (O:(fn.params.toList.all fun t=>C.prog.readableRec t&&decide (t<C.prog.types.size))=true)
 (I:fn.resultTypes=#[tb]) (z:C.prog.underlying tb=some .bool) :
 ReturnsInHanded {} C os f .any ((OpenSpec.ofChange sp).preRow enc C.prog fn l false k) (((OpenSpec.ofChange sp).at F).post enc C.prog fn false true false false):=by
 refine returnsInHanded_of_row (s:=OpenSpec.ofChange sp) own d m T c ?_;intro W base args b Z J B Y _ _ _ hL N _;have A:=Y;obtain⟨K,q,V,U,rfl,_,_⟩:=Y
 have S:Z=[]/\q=[]:=by
  rw[show(OpenSpec.ofChange sp).vars=sp.vars from rfl,G] at U
  cases Z with
  |nil=>exact⟨rfl,U⟩
  |cons=>exact U.elim
 obtain⟨rfl,rfl⟩:=S;obtain⟨x,h1,h2⟩:=WN E V (r:=.any) (base:=base) fun j t v ht hv=>B j t v (by simpa using ht) (by simpa using hv);simp only[b6] at A
 have R:∀x∈K,x.block<W.heap.size:=fun x hx=>by simpa using A.lt x hx
 refine(callsIn_wide (n:=0)).1 ((hp ZB x _ (law x h2) W args.toList (fun _ h=>h.elim) (L W hL N) h1).2.mono fun e W' hw=>?_);obtain⟨u,rfl,X,k2,k3,k4,k5,k6⟩:=hw
 have hu:u=.bool true:=by
  obtain⟨ts,rs,F⟩:=p;dsimp only at o X;subst o;obtain⟨us,c1,rfl⟩:=X;have:us=[.bool true]:=c1;rw[this]; rfl
 subst hu;have hb:Below W.heap.size W W':=⟨k4,k5,k6,k3,k2⟩
 have y:sp.fn H (b++[])={results:=[.lit (.bool true)],args:=b}:=by rw[b6]; exact hs b (Cj V)
 refine⟨_,rfl,b,[],K,[],K,[],A,?_,?_,?_,hb.frame _,fun h=>by cases h⟩
 ·show DataW.TrodAll _ _ _ _ _ _ _ _ (sp.fn H (b++[])).results _;rw[y,I];exact trodAll_mk1 (shut_bool z _)
 ·show DataW.TrodAll _ _ _ _ _ _ _ _ (sp.fn H (b++[])).args _;rw[y];exact vO hl hb O V R
 ·have e1:((OpenSpec.ofChange sp).at F).fn H (b++[])={results:=[.lit (.bool true)],args:=b}:=y;have e2:((OpenSpec.ofChange sp).at F).vars=[]:=G;rw[e1,e2]; rfl
def witness_laid {C:Checked} {os:Os} {f:FuncId} {fn:Func} {sp:ChangeSpec} {c:NO PathCond} {b:NO (String×DataW Unit)} (args:Array Value)
 (l:((World.laidAll C.prog os b).forCall (fun _ _=>0) ⟨#[],args,[]⟩).variablesZipB C.prog=true)
 (k:(((World.laidAll C.prog os b).forCall (fun _ _=>0) ⟨#[],args,[]⟩).heap.toList.drop C.prog.globals.size).take ((begin C.prog (fun _ _=>0) default).world.heap.size-C.prog.globals.size)=(begin C.prog (fun _ _=>0) default).world.heap.toList.drop C.prog.globals.size)
 (j:Input.okWideB C.prog ((World.laidAll C.prog os b).forCall (fun _ _=>0) ⟨#[],args,[]⟩) f ⟨#[],args,[]⟩=true)
 (d:sp.preB enc C.prog fn c false ((World.laidAll C.prog os b).forCall (fun _ _=>0) ⟨#[],args,[]⟩).memory args 8=true)
 (e:sp.sizedB enc C.prog fn false ((World.laidAll C.prog os b).forCall (fun _ _=>0) ⟨#[],args,[]⟩).memory args 8=true)
 (m:(b.all fun x=>x.2.handleName?.isNone)=true)
 (n:(World.holding C.prog os ⟨#[],#[],[]⟩).layFits C.prog b []=true)
 (hi:(World.holding C.prog os ⟨#[],#[],[]⟩).layIfaces C.prog b (World.laidAll C.prog os b)=true) :
 ∃(w:World) (tape:Tape) (i:Input),w.os=os/\(w.forCall tape i).Shaped C.prog/\i.vars=[]/\Input.okWide C.prog (w.forCall tape i) .any w.heap.size f i /\
  (OpenSpec.ofChange sp).preRow enc C.prog fn c false b (w.forCall tape i).memory i.args/\({}:Assume).holds C.prog (lone (Frame.enter C.prog f i.args .normal) [] (w.forCall tape i)) :=
 ChangeSpec.witness_shaped (enc:=enc) (X:=fun w _=>laidMetH C.prog b w) false (World.laidAll C.prog os b) args 8 (World.laidAll_os _ _ _) (World.shaped_of_ZipB l k) j d e
  (by rw[MakeChecks.laidMetH_plain _ _ _ m]; exact laidMet_laidAll _ n hi)
def shaped_int {P:Program} {W:World} (o:W.ShapedOpen P) {g:Nat} {t t':TypeId} {zero:Array Value} {k:IntKind} (q:g<P.globals.size) (j:((begin P (fun _ _=>0) default).world.heap[g]?).bind Obj.row?=some (zero,t)) (z:zero.size=1) (hb:P.buildable t=true)
 (v:P.cellTypes P.depth t=some [t']) (n:P.underlying t'=some (.int k)):∃m,W.cell? ⟨g,0,none⟩=some (.int k m):=by
 obtain⟨cs,h1,h2,y⟩:=o.1 g zero t q j;obtain⟨ts,d,_,i⟩:=y hb;rw[v] at d; cases d
 have c:0<cs.size:=by omega
 obtain⟨u,e,b⟩:=i 0 cs[0] (Array.getElem?_eq_getElem c);cases e;unfold Cell.ok at b;rw[n] at b
 have l:W.cell? ⟨g,0,none⟩=some cs[0]:=by simp[World.cell?,h1,c]
 rw[l]
 split at b<;>first|(cases ‹some (TypeDesc.int _)=_›; rename_i s; obtain⟨rfl,_⟩:=b; rw[s]; exact⟨_,rfl⟩)|(simp_all; done)|cases b
def shaped_cel {P:Program} {W:World} (i:W.ShapedOpen P) (ha:((List.range P.globals.size).all fun g=>(((begin P (fun _ _=>0) default).world.heap[g]?).bind Obj.row?).isSome)=true) (b:Nat) (hb:b<P.globals.size):∃c e r,W.heap[b]?=some (.cells c e r):=by
 have:=b8.1 ha b (List.mem_range.2 hb);obtain⟨⟨zero,t⟩,d⟩:=ee.1 this;obtain⟨cs,h1,_⟩:=i.1 b zero t hb d;exact⟨_,_,_,h1⟩
def laid_iface {P:Program} {W:World} {b n:String} {d:DataW Unit} {g ti:Nat} {ms:Array (String×TypeId)} (h:laidMet P [(b,.iface n d)] W) (e:P.globalNamed b=some g) (c:(P.globals[g]?).map (·.type)=some ti) (hi:P.underlying ti=some (.interface ms)) :
 ∃ev,W.cell? ⟨g,0,none⟩=some ev/\(ev=.nilIface\/∃l m,ev=.iface l m):=by
 obtain⟨ps,⟨g',t,cs,i,p,q,k,j,y,s,_,_⟩,_⟩:=h;rw[e] at k; cases k;rw[c] at j; cases j;obtain⟨_,u,v,o,_,_⟩:=iface_of_trod hi s;refine⟨.iface u v,?_,.inr ⟨u,v,rfl⟩⟩;rw[World.var?_cell e y 0,<-dX,o]; rfl
end
end Go.Am
end

noncomputable section
namespace Go.Am
open Go.RowKit
section
variable [Globs] {P:Program} {f:Nat} {p:ö}
def gy (hb:∃fn c,P.funcs[f]?=some fn/\fn.body=some c) (h:∀(G:Nat->Prop) (x:Val (tyL p.ts)) (y:Val (tyL p.rs)),p.F x=some y->∀(w:World) (vals:NO Value),(∀b,G b->b<w.heap.size)->Globs.Φ w->AL w G p.ts x vals ->
 Calls P f vals.toArray w fun e w'=>∃u,e=.returned u/\RR w' G p.rs y u/\Below w.heap.size w w'):Ő P f p:=by
 intro G x y l w vals k d i;refine⟨hb,(callsIn_wide (n:=0)).2 ((h G x y l w vals k d i).mono fun e w' j=>?_)⟩;obtain⟨u,rfl,h1,h2⟩:=j;exact⟨u,rfl,h1,fun b hb=>h2.block b hb,h2.size,h2.os,h2.tape,h2.output⟩
end
def zF {w:World} {G:Nat->Prop} {s:ByteArray} {v:Value} (h:Ř w G .str s v):v=.string s:=by
 obtain⟨us,h1,rfl⟩:=h;have:us=[.string s]:=h1;rw[this]; rfl
def V9 {w:World} {G:Nat->Prop} {k:IntKind} {n:Int} {v:Value} (h:Ř w G (.int k) n v):v=.int k n:=by
 obtain⟨us,h1,rfl⟩:=h;have:us=[.int k n]:=h1;rw[this]; rfl
def Ij {w:World} {G:Nat->Prop} (s:ByteArray):Ř w G .str s (.string s):=⟨[.string s],rfl,rfl⟩
def int_arg {w:World} {G:Nat->Prop} (k:IntKind) (n:Int):Ř w G (.int k) n (.int k n):=⟨[.int k n],rfl,rfl⟩
def WQ {w:World} {G:Nat->Prop} {b:Nat} {xs:NO ByteArray} {cs:Array Value} {e:TypeId} (hb:w.heap[b]?=some (.cells cs e (0,0))) (l:¬G b) (k:cs=(xs.map Value.string).toArray):Ř w G (.slice .str) xs (.slice (some ⟨b,0,none⟩) xs.length xs.length):=by
 refine⟨[_],⟨some ⟨b,0,none⟩,xs.length,rfl,bE _,.inr ⟨b,0,rfl,l,à hb,fun i x d=>⟨[.string x],rfl,fun j v c=>?_⟩⟩⟩,rfl⟩
 cases j with
 |succ j=>simp at c
 |zero =>
  simp only[dg,Option.some.injEq] at c;subst c
  have hi:cs[i]?=some (.string x):=by rw[k]; simp[dk,d]
  unfold World.cell?
  simp[hb,Ty.size,hi]
def Yd {w:World} {G:Nat->Prop} {xs:NO ByteArray} {v:Value} (h:Ř w G (.slice .str) xs v):∃base cap,v=.slice base xs.length cap/\xs.length<=cap/\(xs=[]\/∃b o,base=some ⟨b,o,none⟩/\b<w.heap.size/\∀(j:Nat) (x:ByteArray),xs[j]?=some x->w.cell? ⟨b,o+j,none⟩=some (.string x)):=by
 obtain⟨us,⟨base,cap,e,l,h1⟩,rfl⟩:=h;refine⟨base,cap,?_,l,?_⟩
 ·rw[e]; rfl
 ·rcases h1 with h1|⟨b,off,hb,_,c,h2⟩
  ·exact .inl h1
  ·refine .inr ⟨b,off,hb,c,fun j x k=>?_⟩;obtain⟨us,i,d⟩:=h2 j x k;have:us=[.string x]:=i;subst this;have:=d 0 (.string x) (by simp);simpa[Ty.size] using this
end Go.Am
end

noncomputable section
namespace Go.Am
abbrev ilt (a b:Int):Bool:=decide (a<b)
abbrev ile (a b:Int):Bool:=decide (a<=b)
abbrev igt (a b:Int):Bool:=decide (a>b)
abbrev ige (a b:Int):Bool:=decide (a>=b)
abbrev ieq (a b:Int):Bool:=a==b
abbrev ine (a b:Int):Bool:=a != b
abbrev š (a b:Int):Bool:=decide (a=b)
abbrev ß {α:Type} (l:NO α):Int:=Fq l.length
abbrev Ć {α:Type} (l:NO α):Int:=(l.length:Int)
section
variable {ρ:Type}
def ck (n:Int) (f:Int->Nm ρ):Nm ρ:=f (Tf n)
def è {α:Type} (l:NO α) (i:Int) (f:α->Nm ρ):Nm ρ :=
 match decide (0<=i) with
 |true=>match l[i.toNat]? with
  |some e=>f e
  |none=>none
 |false=>none
def κ {α:Type} (l:NO α) (i:Nat) (f:α->Nm ρ):Nm ρ :=
 match l[i]? with
 |some e=>f e
 |none=>none
def Nx {k v:Ty} (x:Val k) (l:NO (Val k×Val v)) (f:Val v->Nm ρ) (g:Nm ρ):Nm ρ :=
 match vh x l with
 |some y=>f y
 |none=>g
def ä (b:Bool) (x:Nm ρ):Nm ρ:=match b with|true=>x|false=>none
def Po (s:ByteArray) (i:Int) (f:Int->Nm ρ):Nm ρ :=
 match decide (0<=i) with
 |true=>match s[i.toNat]? with
  |some b=>f b.toNat
  |none=>none
 |false=>none
def ifb (b:Bool) (x y:Nm ρ):Nm ρ:=match b with|true=>x|false=>y
def KK (x:Nm (NO Int)) (f:Int->Nm ρ) (n:Nm ρ):Nm ρ :=
 Â x fun l=>match l.find? (fun e=>e != 0) with
  |some e=>f e
  |none=>n
def CO {α β:Type} (f:α->Nm β):NO α->Nm (NO β)
 |[]=>some []
 |a::l=>match f a with
  |some b=>match CO f l with
   |some m=>some (b::m)
   |none=>none
  |none=>none
def pQ (n:Nat):NO Int:=(List.range n).map fun(i:Nat)=>(i:Int)
end
end Go.Am
end

noncomputable section
namespace Go.Am
open Go
def i64B (n:Int):Bool:=decide (-9223372036854775808<=n)&&decide (n<=9223372036854775807)
def UR (n:Int):Nm ByteArray:=if i64B n then some ⟨(Lib.itoa n).toArray⟩ else none
def Tk (s p:ByteArray):Nm ByteArray:=if s.size<=9223372036854775807 then some ⟨(Lib.trimSuffix s.data.toList p.data.toList).toArray⟩ else none
def indexF (s:ByteArray) (c:Int):Nm Int:=some (Lib.indexByte s.data.toList c.toNat.toUInt8)
def Ks (s b:ByteArray):Nm (NO ByteArray):=if decide (s.size<4294967281)&&decide (1<=b.size) then some (Lib.splitB b 0 (Lib.countB s b) s) else none
def UP (xs:NO ByteArray) (b:ByteArray):Nm ByteArray:=if decide (xs.length<=140737488355328)&&decide ((Lib.join (xs.map (·.data.toList)) b.data.toList).length<=140737488355328) then some ⟨(Lib.join (xs.map (·.data.toList)) b.data.toList).toArray⟩ else none
def V2 (s:ByteArray):Nm (Int×Bool):=match decide (s.size<=281474976710656) with
 |true=>some (match Lib.atoiAll s.data.toList with
  |.ok v=>(v,false)
  |.range=>(Lib.atoiSat s.data.toList,true)
  |_=>(0,true))
 |false=>none
def mG:=UR
def υ:=Tk
def kM:=Ks
def mF:=UP
def jp:Nat->ByteArray->NO ByteArray
 |0,_=>[]
 |n+1,s=>if s.size=0 then[] else if 0<=Lib.indexByte s.data.toList 10 then s.extract 0 (Lib.indexByte s.data.toList 10+1).toNat::jp n (s.extract (Lib.indexByte s.data.toList 10+1).toNat s.size) else[s]
def uK (s:ByteArray):NO ByteArray:=jp s.size s
section
variable {ρ:Type}
def Zg {α β:Type} (c:α->Nm ρ) (b:β->Nm ρ):Sum α β->Nm ρ
 |.inl v=>c v
 |.inr z=>b z
def WE {α β γ:Type} (f:α->β->Nm (Sum α γ)):NO β->α->(α->Nm ρ)->(γ->Nm ρ)->Nm ρ
 |[],v,kn,_=>kn v
 |y::ys,v,kn,kx=>Â (f v y) (Zg (fun v=>WE f ys v kn kx) kx)
end
section
variable {ρ:Type} {σ:Type}
def Xl {α:Type} (x:α) (k:α->Nm σ):Â (some x) k=k x:=rfl
def Xp {α:Type} (x:Nm α) (f:α->Nm ρ) (k:ρ->Nm σ):Â (Â x f) k=Â x fun a=>Â (f a) k:=by cases x<;>rfl
def Zo (b:Bool) (x y:Nm ρ) (k:ρ->Nm σ):Â (ifb b x y) k=ifb b (Â x k) (Â y k):=by cases b<;>rfl
def Zn (b:Bool) (x:Nm ρ) (k:ρ->Nm σ):Â (ä b x) k=ä b (Â x k):=by cases b<;>rfl
def Xo {α:Type} (l:NO α) (i:Int) (f:α->Nm ρ) (k:ρ->Nm σ):Â (è l i f) k=è l i fun a=>Â (f a) k:=by
 unfold è; cases decide (0<=i)
 ·rfl
 ·cases l[i.toNat]?<;>rfl
def Xn {α:Type} (l:NO α) (i:Nat) (f:α->Nm ρ) (k:ρ->Nm σ):Â (κ l i f) k=κ l i fun a=>Â (f a) k:=by
 unfold κ; cases l[i]?<;>rfl
def Xm (s:ByteArray) (i:Int) (f:Int->Nm ρ) (k:ρ->Nm σ):Â (Po s i f) k=Po s i fun a=>Â (f a) k:=by
 unfold Po; cases decide (0<=i)
 ·rfl
 ·cases s[i.toNat]?<;>rfl
def nat_ck (n:Int) (f:Int->Nm ρ) (k:ρ->Nm σ):Â (ck n f) k=ck n fun a=>Â (f a) k:=rfl
end
end Go.Am
end

noncomputable section
namespace Go.Am
variable [Globs]
structure Z7 where
 ty:Ty
 ts:NO Ty
 clo:Nat
 mt:Ty
 F:NO (Val ty)->Val (tyL ts)->Val mt->Nm (NO (Val ty)×Val mt)
def Pm:NO AV->Nm (NO AV×AV)
 |[]=>none
 |[a]=>some ([],a)
 |a::l=>match Pm l with
  |some (m,b)=>some (a::m,b)
  |none=>none
section
variable {ρ:Type}
def rowX (r:Z7) (h:NO Blk) (b:NO AV) (K:AV->NO Blk->Nm ρ):Nm ρ :=
 match b with
 |.own id g::as=>match Pm as with
  |some (ds,.fn (.func c) [] [.box bid 0])=>match Nat.beq c r.clo&&!Nat.beq id bid with
   |true=>match lkB h id with
    |.row t g' false xs=>match g==g' with
     |true=>match decEq t r.ty with
      |isTrue e=>match lkB h bid with
       |.cells cs=>match cs.all fun a=>!vL a with
        |true=>match vJ h r.ts ds with
         |some x=>match (Ov r.ts x).all plain with
          |true=>match Ö r.mt cs with
           |some m=>Â (r.F (nW (F:=fun t=>NO (Val t)) e xs) x m) fun z=>K (.tup []) (å (å h id (.row r.ty g' false z.1)) bid (.cells (flat r.mt z.2)))
           |none=>none
          |false=>none
         |none=>none
        |false=>none
       |_=>none
      |isFalse _=>none
     |false=>none
    |_=>none
   |false=>none
  |_=>none
 |_=>none
def TC (r:Z7) (x:Val (tyL r.ts)):NO AV:=.own 0 0::(Ov r.ts x++[.fn (.func r.clo) [] [.box 1 0]])
def kr (r:Z7) (xs:NO (Val r.ty)) (m:Val r.mt):NO Blk:=[.row r.ty 0 false xs,.cells (flat r.mt m)]
def Yx (r:Z7) (K:NO (Val r.ty)->Val r.mt->Nm ρ) (v:AV) (h:NO Blk):Nm ρ :=
 match v with
 |.tup []=>match lkB h 0 with
  |.row t 0 false ys=>match decEq t r.ty with
   |isTrue e=>match lkB h 1 with
    |.cells cs=>match cs.all fun a=>!vL a with
     |true=>match Ö r.mt cs with
      |some m=>K (nW (F:=fun t=>NO (Val t)) e ys) m
      |none=>none
     |false=>none
    |_=>none
   |isFalse _=>none
  |_=>none
 |_=>none
end
structure RowOk (P:Program) (f:Nat) (r:Z7):Prop where
 ok:∀(G:Nat->Prop) (xs:NO (Val r.ty)) (x:Val (tyL r.ts)) (m:Val r.mt) (ys:NO (Val r.ty)) (m2:Val r.mt),r.F xs x m=some (ys,m2) ->
 ∀(ν:Nat->Value) (w:World) (vals:NO Value),@HR _ (Gh G) ν (kr r xs m) w->ì (@VR _ (Gh G) ν (kr r xs m) w) (TC r x) vals ->
  (∃fn c,P.funcs[f]?=some fn/\fn.body=some c)/\CallsIn Fence.wide 0 P f vals.toArray w fun e w'=>∃ν' h' v u,e=.returned u/\@VR _ (Gh G) ν' h' w' v u/\@HR _ (Gh G) ν' h' w'/\Ev 2 ν (kr r xs m) w ν' h' w'/\Yx r (fun zs m'=>some (zs,m')) v h'=some (ys,m2)
section
variable [Í] {ρ:Type} {ν:Nat->Value} {h:NO Blk} {w:World} {P:Program}
def Cm:∀{l m:NO AV} {b:AV},Pm l=some (m,b)->l=m++[b]
 |[],_,_,e=>by cases e
 |[a],_,_,e=>by cases e; rfl
 |a::c::l,m,b,e=>by
  simp only[Pm] at e
  split at e<;>try (cases e; done)
  rename_i d i h1;cases e;rw[Cm h1];rfl
def HY (H:HR ν h w) {cs:NO AV} (hd:(cs.all fun a=>!vL a)=true) {us:NO Value} (c:ì (VRc ν h w) cs us):ì (VRs w (Av ν h)) cs us :=
 ì.mono (fun _ _ b=>VR1.data b.1) c
def AL.plainG {G c:Nat->Prop}:∀{l:NO Ty} {x:Val (tyL l)} {vs:NO Value},(Ov l x).all plain=true->AL w G l x vs->AL w c l x vs
 |[],_,_,_,h=>h
 |_::_,_,_,b,h=>AT.plain b h
def ZF {f:Nat} {r:Z7} (hr:RowOk P f r):O5 P f (rowX (ρ:=ρ) r):=by
 intro h args K res e ν w vals H S;unfold rowX at e
 split at e<;>try (cases e; done)
 rename_i id g as
 split at e<;>try (cases e; done)
 rename_i ds c bid hsp
 split at e<;>try (cases e; done)
 rename_i hcb;simp only[bH,cF] at hcb;obtain rfl:=bM hcb.1
 have Y:id≠bid:=fun q=>by rw[q,Nat.beq_refl] at hcb; exact absurd hcb.2 (by simp)
 split at e<;>try (cases e; done)
 rename_i t g' xs hl
 split at e<;>try (cases e; done)
 rename_i Z
 obtain rfl:g=g':=by simpa using Z
 split at e<;>try (cases e; done)
 rename_i hty _;subst hty
 split at e<;>try (cases e; done)
 rename_i cs R
 split at e<;>try (cases e; done)
 rename_i hcs
 split at e<;>try (cases e; done)
 rename_i x hx
 split at e<;>try (cases e; done)
 rename_i hpl
 split at e<;>try (cases e; done)
 rename_i m hm;simp only[Â] at e
 split at e<;>try (cases e; done)
 rename_i z hys;obtain⟨ys,m2⟩:=z
 replace hys:r.F xs x m=some (ys,m2):=hys
 have has:=Cm hsp;subst has
 -- the arguments
 cases vals with
 |nil=>exact S.elim
 |cons u0 us =>
 obtain⟨hu0,hus⟩:=S;obtain⟨us1,us2,rfl,hds,hfn⟩:=hus.split;obtain⟨uf,rfl,huf⟩:=hfn.one
 have hu0':u0=ν id:=by
  obtain⟨_,t2,g2,fz2,xs2,hl2,_,hq⟩:=hu0;rw[hl] at hl2;cases hl2;exact hq rfl
 obtain⟨fs,cps,rfl,hfs,hcps⟩:=huf
 have d:(lkB h id).live=true:=by rw[hl]; rfl
 have l:(lkB h bid).live=true:=by rw[R]; rfl
 have hidl:id<h.length:=Ģ hl (by simp);have hbl:bid<h.length:=Ģ R (by simp);have hB:=H.blk id;rw[hl] at hB;have hC:=H.blk bid;rw[R] at hC
 -- the frame
 obtain⟨I,T⟩:∃I:Nat->Prop,I=fun b=>Av ν h b/\¬Ċ (ν id) b/\¬Ċ (ν bid) b:=⟨_,rfl⟩
 obtain⟨C,hν0⟩:∃C:Nat->Value,C=fun n=>if n=0 then ν id else if n=1 then ν bid else undef:=⟨_,rfl⟩
 have X:C 0=ν id:=by rw[hν0]; rfl
 have n1:C 1=ν bid:=by rw[hν0]; rfl
 have hAv:∀b,@Av _ (Gh I) C (kr r xs m) b->Av ν h b:=by
  rintro b (⟨i,hi,o⟩|Z)
  ·match i,hi,o with
   |0,_,o=>rw[X] at o; exact .inl ⟨id,d,o⟩
   |1,_,o=>rw[n1] at o; exact .inl ⟨bid,l,o⟩
   |i+2,hi,_=>cases hi
  ·have O:I b:=Z;rw[T] at O;exact O.1
 obtain⟨bb,cb,eb,hc1,hc2,hc3⟩:=hC;have hcr:CR w (Av ν h) r.mt m cb.toList:=þ hm (HY H hcs hc3);have hx0:AL w (fun _=>False) r.ts x us1:=yo H hds (fun a _ c _ u hu=>Kv H hu) (fun _ _ _ _ _ _=>⟨fun _ _ hf=>hf,fun c _ u hu=>Kv H hu⟩) (fun _ _ _ _ _ _ _ _ hf=>hf) hx;have hx1:AL w (@Av _ (Gh I) C (kr r xs m)) r.ts x us1:=AL.plainG hpl hx0
 have H0:@HR _ (Gh I) C (kr r xs m) w:=by
  refine @HR.mk _ (Gh I) _ _ _ (fun i=>?_) (fun i j b hi hj s L=>?_) (fun b hb=>?_) (fun i b hi s Z=>?_) H.glob (fun b hb ⟨i,hi,o⟩=>by
   match i,hi,o with
   |0,_,o=>rw[X] at o; exact H.globL b hb ⟨id,d,o⟩
   |1,_,o=>rw[n1] at o; exact H.globL b hb ⟨bid,l,o⟩
   |i+2,hi,_=>cases hi)
  ·match i with
   |0 =>
    obtain⟨base,cap,G,J,W⟩:=hB;refine⟨base,cap,X.trans G,J,W.imp (fun z=>z) fun⟨b,off,c,e',q4,q5,q6,q7⟩=>⟨b,off,c,e',q4,q5,q6,fun i y hy=>?_⟩⟩;obtain⟨us,q8,q9⟩:=q7 i y hy;exact⟨us,CR.mono hAv q8,q9⟩
   |1=>exact⟨bb,cb,eb,n1.trans hc1,hc2,@gR _ (Gh I) C (kr r xs m) w _ _ _ (CR.mono hAv hcr)⟩
   |i+2=>exact trivial
  ·match i,j,hi,hj,s,L with
   |0,0,_,_,_,_=>rfl
   |1,1,_,_,_,_=>rfl
   |0,1,_,_,s,L=>rw[X] at s; rw[n1] at L; exact absurd (H.inj id bid b d l s L) Y
   |1,0,_,_,s,L=>rw[n1] at s; rw[X] at L; exact absurd (H.inj id bid b d l L s) Y
   |i+2,_,hi,_,_,_=>cases hi
   |_,j+2,_,hj,_,_=>cases hj
  ·have hb':I b:=hb;rw[T] at hb';exact H.ltA hb'.1
  ·have O:I b:=Z;rw[T] at O
   match i,hi,s with
   |0,_,s=>rw[X] at s; exact O.2.1 s
   |1,_,s=>rw[n1] at s; exact O.2.2 s
   |i+2,hi,_=>cases hi
 have hargs0:ì (@VR _ (Gh I) C (kr r xs m) w) (TC r x) (u0::(us1++[.func (.func r.clo) fs cps])):=by
  refine⟨⟨?_,r.ty,0,false,xs,rfl,bE _,fun _=>hu0'.trans X.symm⟩,(@AL.VR _ (Gh I) C (kr r xs m) w _ _ _ hx1).append ⟨⟨fs,cps,rfl,?_,?_⟩,trivial⟩⟩
  ·rw[hu0'];obtain⟨base,cap,G,_⟩:=hB;rw[G]; rfl
  ·rw[hfs.nil_left]; trivial
  ·obtain⟨uc,hu1,hu2⟩:=hcps.one;rw[hu1];refine⟨?_,trivial⟩;obtain⟨cs',b',G,J,W⟩:=hu2;exact⟨flat r.mt m,b',rfl,n1.trans J,W⟩
 obtain⟨hbody,hcall⟩:=hr.ok I xs x m ys m2 hys C w _ H0 hargs0;refine⟨hbody,hcall.mono fun en w' hw=>?_⟩;obtain⟨ν',h',v,u,rfl,g1,g2,g3,N⟩:=hw
 -- what the run leaves
 unfold Yx at N
 split at N<;>try (cases N; done)
 split at N<;>try (cases N; done)
 rename_i t' ys' hl0
 split at N<;>try (cases N; done)
 rename_i hty' _;subst hty'
 split at N<;>try (cases N; done)
 rename_i cs' hl1
 split at N<;>try (cases N; done)
 rename_i hcs'
 split at N<;>try (cases N; done)
 rename_i m' hm';cases N;have nx0:=g3.blk 0 (by omega);rw[show lkB (kr r xs m) 0=.row r.ty 0 false xs from rfl,hl0] at nx0;obtain⟨_,_,_,G,_,W⟩:=nx0;cases G;obtain⟨v0,hylen⟩:=W rfl;have nx1:=g3.blk 1 (by omega);rw[show lkB (kr r xs m) 1=.cells (flat r.mt m) from rfl] at nx1;have v1:ν' 1=ν bid:=nx1.2.trans n1;rw[X] at v0;have b0:=@HR.blk _ (Gh I) _ _ _ g2 0;rw[hl0] at b0;have b1:=@HR.blk _ (Gh I) _ _ _ g2 1;rw[hl1] at b1
 have lv0:(lkB h' 0).live=true:=by rw[hl0]; rfl
 have lv1:(lkB h' 1).live=true:=by rw[hl1]; rfl
 have E:∀k,ç (ç ν id (ν id)) bid (ν bid) k=ν k:=fun k=>by
  by_cases G:k=bid
  ·rw[G,Ê]
  ·rw[ñ _ _ G]
   by_cases J:k=id
   ·rw[J,Ê]
   ·rw[ñ _ _ J]
 have hAv':∀b,Av (ç (ç ν id (ν id)) bid (ν bid)) (å (å h id (.row r.ty g false ys')) bid (.cells (flat r.mt m2))) b->@Av _ (Gh I) ν' h' b:=by
  rintro b (⟨k,hk,o⟩|Z)
  ·rw[E] at o
   by_cases G:k=bid
   ·rw[G] at o;exact .inl ⟨1,lv1,by rw[v1]; exact o⟩
   ·rw[Ì _ G] at hk
    by_cases J:k=id
    ·rw[J] at o;exact .inl ⟨0,lv0,by rw[v0]; exact o⟩
    ·rw[Ì _ J] at hk;refine .inr ?_;show I b;rw[T];exact⟨.inl ⟨k,hk,o⟩,fun q=>J (H.inj k id b hk d o q),fun q=>G (H.inj k bid b hk l o q)⟩
  ·refine .inr ?_;show I b;rw[T];exact⟨.inr Z,fun q=>H.ghne id b d q Z,fun q=>H.ghne bid b l q Z⟩
 obtain⟨ev,hr2⟩:=upd2 (w':=w') (A:=.row r.ty g false ys') (B:=.cells (flat r.mt m2)) (U:=ν id) (V:=ν bid) H Y hidl hbl g3.os g3.tape g3.output g3.size
  (fun b hb G J=>(g3.keep b hb fun⟨i,hi,o⟩=>by
   match i,hi,o with
   |0,_,o=>rw[X] at o; exact G d o
   |1,_,o=>rw[n1] at o; exact J l o
   |i+2,hi,_=>cases hi).1)
  (fun _ b hb=>.inl ⟨d,hb⟩) (fun _ b hb=>.inr (.inl ⟨l,hb⟩)) (fun _ _ b h1 h2=>Y (H.inj id bid b d l h1 h2))
  (by rw[hl]; exact⟨g,false,ys',rfl,bE _,fun _=>⟨E id,hylen⟩⟩)
  (by rw[R]; exact⟨⟨_,rfl⟩,E bid⟩)
  (fun ev=>by
   obtain⟨base,cap,G,J,W⟩:=b0;refine⟨base,cap,(E id).trans (v0.symm.trans G),J,W.imp (fun x=>x) fun⟨b,off,c,e',q4,q5,q6,q7⟩=>⟨b,off,c,e',q4,q5,q6,fun i y hy=>?_⟩⟩;obtain⟨us,q8,q9⟩:=q7 i y hy
   exact⟨us,CR.mono hAv' q8,q9⟩)
  (fun ev=>by
   obtain⟨b2,c2,e2,G,J,W⟩:=b1
   exact⟨b2,c2,e2,(E bid).trans (v1.symm.trans G),J,gR (CR.mono hAv' (þ hm' (@HY _ (Gh I) _ _ _ g2 _ hcs' _ W)))⟩)
 refine⟨_,_,.tup [],u,rfl,?_,hr2,ev,by rw[Î,Î]; exact bE _,fun j hj hd=>?_,e⟩
 ·obtain⟨vs,G,J⟩:=g1;exact⟨vs,G,by rw[J.nil_left]; trivial⟩
 ·have j1:j≠bid:=fun q=>by rw[q,R] at hd; cases hd
  have j2:j≠id:=fun q=>by rw[q,hl] at hd; cases hd
  rw[Ì _ j1,Ì _ j2];exact hd
end
def ZY {ρ:Type} (h:NO Blk) (b:NO AV) (K:AV->NO Blk->Nm ρ):Nm ρ :=
 match b with
 |[]=>none
 |a::l=>match l with
  |_::_=>none
  |[]=>match a with
   |.str s=>Â (V2 s) fun r=>K (.tup [.int .i64 r.1,.ifc r.2]) h
   |_=>none
structure WB (P:Program) (f:Nat):Prop where
 body:∃fn c,P.funcs[f]?=some fn/\fn.body=some c
 ok:∀(w:World) (s:ByteArray) (r:Int×Bool),Globs.Φ w->V2 s=some r->Calls P f #[.string s] w fun e w'=>∃u,e=.returned (.tuple #[.int .i64 r.1,u])/\u.oneCell'=true/\(r.2=false->u=.nilIface)/\(r.2=true->∃t x,u=.iface t x)/\RowKit.Below w.heap.size w w'
def XG [Í] {ρ:Type} {P:Program} {f:Nat} (k:WB P f):O5 P f (ZY (ρ:=ρ)):=by
 intro h l K res e ν w vals H c;unfold ZY at e
 split at e<;>try (cases e; done)
 split at e<;>try (cases e; done)
 split at e<;>try (cases e; done)
 rename_i s;unfold Â at e
 split at e<;>try (cases e; done)
 rename_i r j;obtain⟨v,rfl,o⟩:=c.one;have i:v=.string s:=o;subst i;refine⟨k.body,(callsIn_wide (n:=0)).2 ((k.ok w s r H.glob j).mono fun y w' m=>?_)⟩;obtain⟨u,rfl,h0,h1,h2,d⟩:=m;obtain⟨ev,q⟩:=H.grow (fun b hb=>d.block b hb) d.size d.os d.tape d.output h.length;exact⟨ν,h,.tup [.int .i64 r.1,.ifc r.2],_,rfl,⟨#[.int .i64 r.1,u],rfl,rfl,⟨h0,h1,h2⟩,trivial⟩,q,ev,bE _,fun _ _ hd=>hd,e⟩
inductive Wc where
 |row (r:Z7)
 |atoi
def xK {ρ:Type}:Wc->NO Blk->NO AV->(AV->NO Blk->Nm ρ)->Nm ρ
 |.row r=>rowX r
 |.atoi=>ZY
def XOk (P:Program) (f:Nat):Wc->Prop
 |.row r=>RowOk P f r
 |.atoi=>WB P f
def Qu:NO (Nat×Wc)->Nat->Nm Wc
 |[],_=>none
 |e::l,f=>match Nat.beq e.1 f with
  |true=>some e.2
  |false=>Qu l f
def extT {ρ:Type} (xt:NO (Nat×Wc)) (f:Nat):Nm (NO Blk->NO AV->(AV->NO Blk->Nm ρ)->Nm ρ) :=
 match Qu xt f with
 |some x=>some (xK x)
 |none=>none
def EG:∀{l:NO (Nat×Wc)} {f:Nat} {x:Wc},Qu l f=some x->(f,x)∈l
 |[],_,_,e=>by cases e
 |a::l,f,x,e=>by
  simp only[Qu] at e
  split at e
  ·rename_i h;cases e;obtain rfl:=bM h;exact .head _
  ·exact .tail _ (EG e)
def ext_of [Í] {ρ:Type} {P:Program} {xt:NO (Nat×Wc)} (b:∀e∈xt,XOk P e.1 e.2):∀f X,extT (ρ:=ρ) xt f=some X->O5 P f X:=by
 intro f X h;unfold extT at h
 split at h<;>try (cases h; done)
 rename_i x c;cases h;have:=b (f,x) (EG c)
 cases x with
 |row r=>exact ZF this
 |atoi=>exact XG this
def xZ [Í] {ρ:Type} {E:Env ρ} (h:E.ext=fun _=>none):∀f X,E.ext f=some X->O5 E.P f X:=fun f X e=>by rw[h] at e; cases e
def ZE [Í] {ρ:Type} {P:Program} {E:Env ρ} {xt:NO (Nat×Wc)} (b:∀e∈xt,XOk P e.1 e.2) (h:E.ext=extT xt) (c:E.P=P:=by rfl):∀f X,E.ext f=some X->O5 E.P f X:=fun f X e=>by
 rw[h] at e;rw[c];exact ext_of b f X e
end Go.Am
end

noncomputable section
namespace Go.Am
open Go
def tG:ö:=⟨[.int .i64],[.str],fun n=>UR n⟩
def jm:ö:=⟨[.str,.str],[.str],fun(x:ByteArray×ByteArray)=>Tk x.1 x.2⟩
def fZ:ö:=⟨[.str,.int .u8],[.int .i64],fun(x:ByteArray×Int)=>indexF x.1 x.2⟩
def qd:ö:=⟨[.str,.str],[.slice .str],fun(x:ByteArray×ByteArray)=>Ks x.1 x.2⟩
def tF:ö:=⟨[.slice .str,.str],[.str],fun(x:NO ByteArray×ByteArray)=>UP x.1 x.2⟩
end Go.Am
end
