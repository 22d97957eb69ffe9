/- lemmas -/
import Derived.Test.YtbiecdpaididoaaGreatDoorAmB
import Derived.RangeFuncLeaves
import Derived.RangeFuncNested
import Derived.Below
import Derived.ProofKit
import Derived.OpenShut
import Derived.WalkKit
import Derived.SizedLaws
import Derived.Carry
import Derived.Deep.DeepHandedRow
import Derived.Deep.DeepWitnessRowRef
import Derived.Lib.LaidTab
import Derived.Lay
import Derived.MakeChecks
import Derived.LaidSub
import Derived.FnData
import Derived.Test.YtbiecdpaididoaaGreatDoorAmA
import Derived.Lib.AtoiAll
import Derived.Lib.Bytealg
import Derived.Lib.ItoaNum
import Derived.Lib.Join
import Derived.Lib.Split
import Derived.Lib.Strings
set_option linter.all false
noncomputable section
namespace Go.Am
variable [Globs] [É]
section
variable {ρ:Type} {ν ν':Nat->Value} {h h':AS Blk} {w w':World} {P:Program}
def Bv {v b:AV} (e:Pk v=some b):b=v/\v.isTup=false:=by
 cases v<;>simp only[Pk,Option.some.injEq,reduceCtorEq] at e<;>exact⟨e.symm,rfl⟩
def J5 {S:St} {a:Act} (H:Sim ν S a w) {rv:ResultVar} {v:AV} (e:GU P S.h S.t rv=some v) :
 ∃u,(match rv with|.tmp t=>(pure (a.tmps.getD t undef):Sem Value)|.cell x t=>do loadVar t (<-asAddr (a.tmps.getD x undef))).run P w=.ok u w/\VR2 ν S.h w v u:=by
 cases rv with
 |tmp i =>
  obtain⟨rfl,c⟩:=Bv e;have:=H.tmps i;rw[nc c] at this;exact⟨_,rfl,this⟩
 |cell x t =>
  simp only[GU] at e
  split at e<;>try (cases e; done)
  rename_i j d;obtain⟨rfl,c⟩:=Bv e;obtain⟨u,h1,h2⟩:=ML H.heap d (H.tmps x);rw[nc c] at h2;refine⟨u,?_,h2⟩;simp only[Instr.loadAt] at h1
  cases b:a.tmps.getD x undef with
  |pointer p =>
   rw[b] at h1
   cases p with
   |none=>simp[Instr.sureAddr] at h1
   |some k =>
    show(do loadVar t (<-asAddr (a.tmps.getD x undef)):Sem Value).run P w=_;rw[b];simpa[Instr.sureAddr,asAddr] using h1
  |_=>rw[b] at h1; simp[Instr.sureAddr] at h1
def Bh {S:St} {a:Act} (H:Sim ν S a w):∀{rs:AS ResultVar} {vs:AS AV},xO P S.h S.t rs=some vs ->
 ∃us:AS Value,(rs.mapM (m:=Sem) fun|.tmp t=>pure (a.tmps.getD t undef)|.cell x t=>do loadVar t (<-asAddr (a.tmps.getD x undef))).run P w=.ok us w/\ä (VR2 ν S.h w) vs us
 |[],vs,e=>by cases e; exact⟨[],rfl,trivial⟩
 |rv::rs,vs,e=>by
  simp only[xO] at e
  split at e<;>try (cases e; done)
  rename_i v d
  split at e<;>try (cases e; done)
  rename_i c b;cases e;obtain⟨u,h1,h2⟩:=J5 H d;obtain⟨us,j,i⟩:=Bh H b;refine⟨u::us,?_,h2,i⟩;simp only[List.mapM_cons,Sem.run_bind,Sem.run_pure];rw[h1];simp only[Result.andThen_ok];rw[j];rfl
def VR2.up {v:AV} {u:Value} (b:VR2 ν h w v u):VR ν h w v u:=by
 cases c:v.isTup with
 |true =>
  cases v<;>try cases c
  exact b.elim
 |false=>rw[nc c]; exact b
def Bg {S:St} {a:Act} {fn:Func} {v:AV} (H:Sim ν S a w) (e:ld P fn S=some v):∃u,(results fn a.tmps).run P w=.ok u w/\VR ν S.h w v u:=by
 unfold ld at e
 cases c:xO P S.h S.t fn.results.toList with
 |none=>rw[c] at e; cases e
 |some vs =>
  obtain⟨us,h1,h2⟩:=Bh H c
  have b:(results fn a.tmps).run P w=.ok (if h:us.toArray.size=1 then us.toArray[0] else .tuple us.toArray) w:=by
   unfold results;rw[Sem.run_bind,Array.mapM_eq_mapM_toList,Sem.run_map]
   erw [h1]
   rfl
  rw[c] at e
  rcases vs with _|⟨x,_|⟨y,l⟩⟩<;>rcases us with _|⟨u,_|⟨u',m⟩⟩
  ·cases e; exact⟨_,b,⟨#[],by simp,trivial⟩⟩
  ·exact h2.elim
  ·exact h2.elim
  ·exact h2.elim
  ·cases e; exact⟨_,b,h2.1.up⟩
  ·exact h2.2.elim
  ·exact h2.elim
  ·exact h2.2.elim
  ·cases e; exact⟨_,b,⟨(u::u'::m).toArray,by simp,h2⟩⟩
def ä.lk {R:AV->Value->Prop} (b:∀u,R .any u):∀{l:AS AV} {m:AS Value} (i:Nat),ä R l m->R (Am.lk l i) (m.getD i undef)
 |[],[],i,_=>b _
 |_::_,_::_,0,h=>h.1
 |_::_,_::_,i+1,h=>by simpa[Am.lk] using ä.lk b i h.2
 |[],_::_,_,h=>h.elim
 |_::_,[],_,h=>h.elim
def Dq (h:É.Q=none):fen=Fence.wide:=by
 unfold fen;rw[h];rfl
omit [É] in
def gX {F:Fence} {n:Nat} {fn:Func} {tmps:Array Value} {R:Ending->World->Prop}:∀(ms:AS Nat) (w:World),ms.Nodup->(∀k∈ms,w.heap[k]?=some (.deferred (some []))) ->
 (∀w':World,w'.heap.size=w.heap.size->w'.os=w.os->w'.tape=w.tape->w'.output=w.output->(∀b,b∉ms->w'.heap[b]?=w.heap[b]?)->LeavesIn F n P fn tmps R [] .returning w')->LeavesInM F n P fn tmps R (ms.map mk1) .returning w
 |[],w,_,_,h=>h w rfl rfl rfl rfl fun _ _=>rfl
 |k::ms,w,s,c,h=>by
  refine⟨by simp,.inl ⟨k,_,rfl,run_takeDeferred (c k (.head _)),?_⟩⟩;obtain⟨h1,h2⟩:=dw.1 s;refine gX ms _ h2 (fun j d=>?_) fun w' q o m l i=>h w' (by rw[q]; simp[World.putObj]) o m l fun b hb=>?_
  ·rw[World.putObj_heap_other (fun e=>h1 (by rw[<-e]; exact d))];exact c j (.tail _ d)
  ·rw[i b fun u=>hb (.tail _ u)];exact World.putObj_heap_other fun e=>hb (by rw[e]; exact .head _)
omit [É] in
def zy {g:É} {E:Env ρ} {call:AS Nat->Bool->Nat->AS AV->AS Blk->(AV->AS Blk->AN ρ)->AN ρ} {N:Nat} (hE:∀M,@ψ _ (g.re g.G [] none M) ρ E N call) (hD:∀M,@jD _ (g.re g.G [] none M) ρ E N call) {path:AS Nat} (s:path.length+2=N) {f:Nat} {d:AS AV} {K:AV->AS Blk->AN ρ} {r:ρ}
 (hL:∀M fn c,E.P.funcs[f]?=some fn->fn.body=some c->∀x∈Ò 0 c,@fq _ (g.re g.G [] none M) ρ E path f x.1 x.2)
 (e:Jl E call path f d h K=some r) {vals:AS Value} (H:@HR _ g ν h w) (Y:g.B<=w.heap.size) (n:ä (@VR _ g ν h w) d vals) :
 (∃fn c,E.P.funcs[f]?=some fn/\fn.body=some c) /\
 CallsIn Fence.wide 0 E.P f vals.toArray w fun e w'=>∃ν' h' v u,e=.returned u/\@VR _ g ν' h' w' v u/\@HR _ g ν' h' w'/\Ev h.length ν h w ν' h' w'/\h.length<=h'.length/\(∀j,j<h.length->lkB h j=.dead->lkB h' j=.dead)/\K v h'=some r:=by
 unfold Jl at e
 split at e<;>try (cases e; done)
 rename_i fn y
 split at e<;>try (cases e; done)
 rename_i c X;refine⟨⟨fn,c,y,X⟩,?_⟩
 letI g':É:=g.re g.G [] none w.heap.size
 refine callsIn_of_wp_marks y X trivial ?_;have A:=n.length
 have hS:Sim ν {t:=d++List.replicate (fn.ntmps-d.length) .any,h:=h} {tmps:=vals.toArray++Array.replicate (fn.ntmps-vals.toArray.size) undef,defers:=[]} w:=by
  refine⟨⟨⟨[],rfl,du,fun _ h=>(by cases h)⟩,fun l C=>(by cases C),Y,bt _⟩,by simp[A],fun i=>?_,HR.re H⟩;simp only[BP];rcases cd i d.length with hi|hi
  ·have:=ä.lk (R:=@VR _ g ν h w) (fun _=>trivial) i n
   have T:i<vals.length:=by omega
   have h2:(vals.toArray++Array.replicate (fn.ntmps-vals.toArray.size) undef).getD i undef=vals.getD i undef:=by
    simp[bS,cY,T]
   rw[h2]; exact this
  ·rw[Pv _ _ hi]; trivial
 have F:=jv (hE _) (hD _) s c 0 _ _ ν _ w (hL _ fn c y X) e hS (bt _);rw[Dq rfl] at F;refine wpIn_mono F fun x J w' ha=>?_;obtain⟨ν',I,h1,h2,h3,h4,m⟩:=ha
 have fin:∀v,ld E.P fn I=some v->K v I.h=some r->LeavesInM Fence.wide 0 E.P fn J.tmps (fun e w'=>∃ν' h' v u,e=.returned u/\@VR _ g ν' h' w' v u/\@HR _ g ν' h' w'/\Ev h.length ν h w ν' h' w'/\h.length<=h'.length/\(∀j,j<h.length->lkB h j=.dead->lkB h' j=.dead)/\K v h'=some r) J.defers .returning w':=by
  intro v T W;obtain⟨⟨ms,m1,m2,S⟩,_,m4,m5⟩:=h1.defers;rw[show J.defers=ms.map mk1 from m1.trans (bW _)];refine gX ms w' m2 (fun k W=>(S k W).1) fun L q1 q2 q3 q4 Z=>?_
  have V:∀(b:Nat) (o:Obj),w'.heap[b]?=some o->wH o=true\/b<g'.B->L.heap[b]?=some o:=fun b o hb hd=>by
   have z:b∉ms:=fun U=>by
    obtain⟨m6,O⟩:=S b U;rw[m6] at hb; cases hb;rcases hd with hd|hd
    ·cases hd
    ·have:g'.B<=w.heap.size:=Y;have O:w.heap.size<=b:=O;omega
   rw[Z b z]; exact hb
  have KG:Ū g' ν' I.h w' g'.G L:=Ū.nds q2 q3 q4 (by omega) V;have q:Sim ν' I {J with defers:=[]} L:=⟨⟨⟨[],rfl,du,fun _ h=>(by cases h)⟩,fun l C=>(by cases C),Y,by rw[q1]; exact m5⟩,h1.len,fun i=>VR.step (g:=g') (D:=[]) (Q:=none) (M:=w.heap.size) KG (h1.tmps i),HR.step (g:=g') (D:=[]) (Q:=none) (M:=w.heap.size) KG (fun b hb=>by have:=h1.heap.ghlt b hb; omega) (fun b ⟨id,C,ho⟩=>h1.heap.ghne id b C ho) h1.heap⟩;obtain⟨u,r1,r2⟩:=Bg q T;refine⟨u,r1,ν',I.h,v,u,rfl,r2,HR.er q.heap,⟨q2.trans h2.os,q3.trans h2.tape,q4.trans h2.output,by rw[q1]; exact h2.size,fun b hb hn=>?_,h2.blk⟩,h3,h4,W⟩;obtain⟨e1,e2⟩:=h2.keep b hb hn;refine⟨?_,e2⟩
  have z:b∉ms:=fun U=>by
   have O:w.heap.size<=b:=(S b U).2;omega
  rw[Z b z]; exact e1
 cases x with
 |normal =>
  simp only at m
  split at m<;>try (cases m; done)
  exact fin _ ‹_› m
 |ret =>
  simp only at m
  split at m<;>try (cases m; done)
  exact fin _ ‹_› m
 |exit id=>cases m
 |goto l=>cases m
 |panic ch=>cases m
 |outgrown=>cases m
def H5 (P:Program) (f:Nat) (X:AS Blk->AS AV->(AV->AS Blk->AN ρ)->AN ρ):Prop :=
 ∀(h:AS Blk) (b:AS AV) (K:AV->AS Blk->AN ρ) (r:ρ),X h b K=some r->∀ν w vals,HR ν h w->ä (VR ν h w) b vals->uB P f ν h w vals K r
structure xc (E:Env ρ):Prop where
 pure:∀f p,E.pure f=some p->Š E.P f p
 sort:∀f,E.sort f=true->∀(h:AS Blk) (x:AV) (K:AV->AS Blk->AN ρ) (r:ρ),Cs h x K=some r->∀ν w u,HR ν h w->VR ν h w x u->uB E.P f ν h w [u] K r
 compact:∀f,E.compact f=true->∀(h:AS Blk) (x:AV) (K:AV->AS Blk->AN ρ) (r:ρ),iR h x K=some r->∀ν w u,HR ν h w->VR ν h w x u->uB E.P f ν h w [u] K r
 plain : ∀ (f : Nat) (fn : Func), E.P.funcs[f]? = some fn -> (fn.name == "runtime.NumGoroutine") = false
 clone:vS E.P E.clone
 joins:Gn E
 yld:ř E
 ext:∀f X,E.ext f=some X->H5 E.P f X
omit [É] in
def NK {E:Env ρ} (n:Nat):(∀f p,E.pure f=some p->∀path c b h K,Α E (n+1) path c f b h K=CC (c&&!E.fz f) p h b K) /\
 (∀f,E.pure f=none->E.sort f=true->∀path c b h K,Α E (n+1) path c f b h K=match b with|[x]=>Cs h x K|_=>none) /\
 (∀f,E.pure f=none->E.sort f=false->E.compact f=true->∀path c b h K,Α E (n+1) path c f b h K=match b with|[x]=>iR h x K|_=>none) :=
 ⟨fun f p d path c b h K=>by simp only[Α,d],fun f d e path c b h K=>by simp only[Α,d,e]; rfl,fun f d e i path c b h K=>by simp only[Α,d,e,i]; rfl⟩
omit [É] in
def mY {E:Env ρ} (i:∀[É],ř E->xc E) (hdraw:∀[É] L call,ψ E L call->jD E L call)
 (hloops:∀n,n<=10->(∀[É],ř E->ψ E (22-2*n) (Α E n))->∀[É],ř E->∀(path:AS Nat) (f:Nat) (fn:Func) (c:Code),path.length+2=22-2*n->E.P.funcs[f]?=some fn->fn.body=some c->∀x∈Ò 0 c,fq E path f x.1 x.2) :
 ∀n,n<=10->∀[É],ř E->ψ E (22-2*n) (Α E n):=by
 intro n
 induction n with
 |zero=>exact fun _ _ l=>⟨.inl fun _ _ _ _ _ _=>rfl,fun path s g m h K r _ e=>(by cases e),(i l).plain,(i l).clone,(i l).joins,l⟩
 |succ n y =>
  intro N k l;have hE:∀[É],ř E->ψ E (22-2*n) (Α E n):=y (by omega);have b:=i l;refine⟨.inr (NK n),fun path s g m h K r J e ν w vals H F d=>?_,b.plain,b.clone,b.joins,l⟩;simp only[Α] at e
  split at e
  ·rename_i I A;exact Ka (b.pure g I A) e H d
  ·split at e
   ·rename_i z
    split at e<;>try (cases e; done)
    rename_i x;obtain⟨u,rfl,v⟩:=d.one;exact b.sort g z h x K r e ν w u H v
   ·split at e
    ·rename_i B
     split at e<;>try (cases e; done)
     rename_i x;obtain⟨u,rfl,v⟩:=d.one;exact b.compact g B h x K r e ν w u H v
    ·split at e
     ·rename_i X C;exact b.ext g X C h m K r e ν w vals H d
     split at e<;>try (cases e; done)
     split at e<;>try (cases e; done)
     have j:path.length+2=22-2*n:=by omega
     have o:∀M,@ř _ (k.re k.G [] none M) ρ E:=fun _=>l;have q:∀M,@ψ _ (k.re k.G [] none M) ρ E (22-2*n) (Α E n):=fun M=>@hE (k.re k.G [] none M) (o M);exact zy q (fun M=>@hdraw (k.re k.G [] none M) _ _ (q M)) j (fun M fn c h1 h2=>@hloops n (by omega) hE (k.re k.G [] none M) (o M) path g fn c j h1 h2) e H F d
end
end Go.Am
end

noncomputable section
namespace Go.Am
variable [Globs] [É]
section
variable {ρ:Type} {P:Program} {h h2:AS Blk} {t t2:AS AV}
def hZ (h h2:AS Blk) (v:AV):Prop:=∀id∈refs2 h v,lkB h2 id=lkB h id
def hZ.one {v:AV} (b:hZ h h2 v):∀id∈refs1 v,lkB h2 id=lkB h id:=fun id hi=>b id (by simp only[refs2,bw]; exact .inl hi)
def hZ.refs {v:AV} (d:hZ h h2 v):refs2 h2 v=refs2 h v:=by
 simp only[refs2]
 have:∀(l:AS Nat),(∀id∈l,lkB h2 id=lkB h id)->(l.flatMap fun id=>(zJ (lkB h2 id)).flatMap ö)=l.flatMap fun id=>(zJ (lkB h id)).flatMap ö:=by
  intro l
  induction l with
  |nil=>intro _; rfl
  |cons x l c=>intro b; simp only[cn]; rw[b x (by simp),c fun id hi=>b id (by simp[hi])]
 rw[this _ d.one]
def iW {v:AV} (b:∀id∈ö v,lkB h2 id=lkB h id):ç h2 v=ç h v:=by
 cases v<;>first
  |rfl
  |(simp only[ç]; rw[b _ (by simp[ö])])
def sc {v:AV} (d:∀id∈refs1 v,lkB h2 id=lkB h id):Ij h2 v=Ij h v:=by
 have one:(∀id∈ö v,lkB h2 id=lkB h id)->ç h2 v=ç h v:=iW
 cases v with
 |agg cs =>
  simp only[Ij,AV.agg.injEq];exact cM fun c e=>iW fun id hi=>d id (bP.2 ⟨c,e,hi⟩)
 |fn f a b=>exact one fun _ hi=>by cases hi
 |_=>exact one d
def KB {ty:TypeId} {a:AV} (b:∀id∈refs1 a,lkB h2 id=lkB h id) (K:AV->AN ρ):AM P h2 ty a K=AM P h ty a K:=by
 cases a<;>first
  |rfl
  |(simp only[AM]; rw[b _ (by simp[refs1,ö])])
def GO {o:Nat} {a:AV} (b:∀id∈refs1 a,lkB h2 id=lkB h id) (K:AV->AN ρ):qg h2 a o K=qg h a o K:=by
 cases a<;>first
  |rfl
  |(simp only[qg]; rw[b _ (by simp[refs1,ö])])
def Hw {sz:Nat} {a i:AV} (b:∀id∈refs1 a,lkB h2 id=lkB h id) (K:AV->AN ρ):tS sz h2 a i K=tS sz h a i K:=by
 cases i<;>try rfl
 cases a<;>first
  |rfl
  |(simp only[tS]; rw[b _ (by simp[refs1,ö])])
def MV {d:AN TypeDesc} {a:AV} (b:∀id∈refs1 a,lkB h2 id=lkB h id) (K:AV->AN ρ):PB d h2 a K=PB d h a K:=by
 unfold PB
 split<;>cases a<;>first
  |rfl
  |(simp only[]; rw[b _ (by simp[refs1,ö])])
def Fy {ty:TypeId} {m i:AV} {ok:Bool} (b:∀id∈refs1 m,lkB h2 id=lkB h id) (K:AV->AN ρ):kK P h2 ty m i ok K=kK P h ty m i ok K:=by
 unfold kK
 have:ç h2 m=ç h m:=iW fun id hi=>b id (by cases m<;>first|exact hi|simp[ö] at hi)
 rw[this]
def HM {σ:Type} {a:AV} {K:AV->AN σ} (b:∀id∈refs1 a,lkB h2 id=lkB h id):ut h2 a K=ut h a K:=by
 cases a<;>first
  |rfl
  |(simp only[ut]; rw[b _ (by simp[refs1,ö])])
def Fz {σ:Type} {P:Program} {ty:TypeId} {id:Nat} {i:AV} {ok:Bool} {K:AV->AN σ} (b:lkB h2 id=lkB h id):mO P h2 ty id i ok K=mO P h ty id i ok K:=by
 unfold mO;rw[b]
def vW {σ:Type} {sz:Nat} {a:AV} {lo hi:AN AV} (K:AV->AS Blk->AN σ):jL sz h a lo hi false K=(jL sz h a lo hi false fun v _=>some v).bind fun v=>K v h:=by
 unfold jL;dsimp only
 (repeat' split)<;>rfl
def GN {sz:Nat} {a:AV} {lo hi:AN AV} (b:∀id∈refs1 a,lkB h2 id=lkB h id):∃φ:AN AV,(∀{σ:Type} (K:AV->AS Blk->AN σ),jL sz h a lo hi false K=φ.bind fun v=>K v h)/\∀{σ:Type} (K:AV->AS Blk->AN σ),jL sz h2 a lo hi false K=φ.bind fun v=>K v h2:=by
 refine⟨jL sz h a lo hi false fun v _=>some v,fun K=>?_,fun K=>?_⟩
 ·exact vW K
 ·rw[vW K];congr 1
  cases a<;>first
   |rfl
   |(simp only[jL]; rw[b _ (by simp[refs1,ö])])
def ap (nid:Nat) (b:AN Blk) (h:AS Blk):AS Blk:=match b with|none=>h|some B=>Ú h nid B
def pbind {α σ σ2:Type} {R:AN σ->AN σ2->Prop} (h0:R none none) {x:AN α} {K:α->AN σ} {K2:α->AN σ2} (h:∀a,R (K a) (K2 a)):R (x.bind K) (x.bind K2):=by
 cases x with
 |none=>exact h0
 |some a=>exact h a
def pb2 {α σ σ2:Type} {R:AN σ->AN σ2->Prop} (h0:R none none) {x:AN α} {K:α->AN σ} {K2:α->AN σ2} {z:AN σ} {b:AN σ2} (h1:z=x.bind K) (h2:b=x.bind K2) (h:∀a,R (K a) (K2 a)):R z b:=by
 subst h1 h2; exact pbind h0 h
def yi {l:AS Operand} (b:∀x∈l,ev t2 x=ev t x):l.map (ev t2)=l.map (ev t):=cM b
def Mo {l:AS (Nat×Operand)} (b:∀x∈l.map (·.2),ev t2 x=ev t x):(l.map fun p=>(p.1,ev t2 p.2))=l.map fun p=>(p.1,ev t p.2):=cM fun p c=>by rw[b p.2 (cD.2 ⟨p,c,rfl⟩)]
def Bf {ty:Ty}:∀{ps:AS (Nat×AV)} {n:Nat},(∀p∈ps,∀id∈refs1 p.2,lkB h2 id=lkB h id)->Ac h2 ty n ps=Ac h ty n ps
 |[],_,_=>rfl
 |(i,v)::ps,n,b=>by
  simp only[Ac];rw[sc (b (i,v) (by simp)),Bf fun q c=>b q (by simp[c])]
def Qw {σ σ2:Type} {R:AN σ->AN σ2->Prop} {E:Env ρ} {o:Op} {nid:Nat} {K:AV->St->AN σ} {K2:AV->St->AN σ2} (h0:R none none) (z:cls E o<=1) (G:BV o=false)
 (k:∀x∈o.operands.toList,ev t2 x=ev t x) (F:cls E o=1->∀x∈o.operands.toList,∀id∈refs1 (ev t x),lkB h2 id=lkB h id)
 (L:∀v J,(J.isSome=true->ð E.clone o=true)->R (K v {t:=t,h:=ap nid J h}) (K2 v {t:=t2,h:=ap nid J h2})) :
 R (opK P {t:=t,h:=h} nid false o K) (opK P {t:=t2,h:=h2} nid false o K2):=by
 have j:∀v,R (K v {t:=t,h:=h}) (K2 v {t:=t2,h:=h2}):=fun v=>L v none (by simp);have ha:ð E.clone o=true->∀v B,R (K v {t:=t,h:=Ú h nid B}) (K2 v {t:=t2,h:=Ú h2 nid B}):=fun U v B=>L v (some B) fun _=>U
 cases o with
 |move x =>
  have e:=k x (by simp[Op.operands]);simp only[opK,e]; exact j _
 |assign x =>
  have e:=k x (by simp[Op.operands]);simp only[opK,e]; exact j _
 |pick c a b =>
  have s:=k c (by simp[Op.operands]);have A:=k a (by simp[Op.operands]);have T:=k b (by simp[Op.operands]);simp only[opK,s,A,T]
  (repeat' split)<;>first|exact h0|exact j _
 |box _ x =>
  have e:=k x (by simp[Op.operands]);simp only[opK,e]
  (repeat' split)<;>first|exact h0|exact ha rfl _ _
 |alloc e =>
  simp only[opK]
  (repeat' split)<;>first|exact h0|exact ha rfl _ _
 |build ty ps =>
  have e:=Mo (l:=ps.toList) (t:=t) (t2:=t2) fun x q=>k x (by simpa[Op.operands] using q);simp only[opK,e]
  (repeat' split)<;>first|exact h0|exact j _
 |buildSlice ty n ps=>exact absurd z (by decide:¬2<=1)
 |load ty a =>
  have e:=k a (by simp[Op.operands]);have d:=F rfl a (by simp[Op.operands]);simp only[opK,e];rw[KB d];exact pb2 h0 (lQ ..) (lQ ..) fun v=>j v
 |nilCheck x =>
  have e:=k x (by simp[Op.operands]);have d:=F rfl x (by simp[Op.operands]);simp only[opK,e]
  cases S:ev t x with
  |optr id g i off =>
   have:=d id (by rw[S]; simp[refs1,ö]);simp only[this]
   (repeat' split)<;>first|exact h0|exact j _
  |_=>first|exact h0|exact j _
 |binOp op ty x y yt =>
  have s:=k x (by simp[Op.operands]);have A:=k y (by simp[Op.operands]);simp only[opK,s,A]
  split
  ·exact pb2 h0 (pv ..) (pv ..) fun v=>j v
  ·exact pb2 h0 (pQ ..) (pQ ..) fun v=>j v
 |unOp op ty x =>
  have e:=k x (by simp[Op.operands]);simp only[opK,e]
  (repeat' split)<;>first|exact h0|exact j _|exact pb2 h0 (rS ..) (rS ..) fun v=>j v
 |convert src dst x =>
  have e:=k x (by simp[Op.operands]);have d:=F rfl x (by simp[Op.operands]);simp only[opK,e]
  (repeat' split)<;>first|exact h0|exact j _|(rw[HM d]; exact pb2 h0 (jc ..) (jc ..) fun v=>j v)
 |makeFunc fn first captured =>
  have s:=yi (l:=first.toList) (t:=t) (t2:=t2) fun x q=>k x (by simp[Op.operands]; exact .inl (by simpa using q));have A:=yi (l:=captured.toList) (t:=t) (t2:=t2) fun x q=>k x (by simp[Op.operands]; exact .inr (by simpa using q));simp only[opK,s,A]
  (repeat' split)<;>first|exact h0|exact j _
 |makeMap ty r =>
  simp only[opK]
  (repeat' split)<;>first|exact h0|exact ha rfl _ _
 |makeSlice ty l c =>
  have e:=k l (by simp[Op.operands]);simp only[opK,e]
  (repeat' split)<;>first|exact h0|exact ha rfl _ _
 |slice ty x lo hi mx =>
  have e:=k x (by simp[Op.operands]);have d:=F rfl x (by simp[Op.operands])
  have s:lo.map (ev t2)=lo.map (ev t):=by
   cases lo with
   |none=>rfl
   |some l=>simp[k l (by simp[Op.operands])]
  have A:hi.map (ev t2)=hi.map (ev t):=by
   cases hi with
   |none=>rfl
   |some l=>simp[k l (by simp[Op.operands])]
  simp only[opK,e,s,A]
  (repeat' split)<;>first
   |exact h0
   |exact pb2 h0 (Ŵ ..) (Ŵ ..) fun v=>j v
   | (obtain ⟨φ, O, N⟩ := GN d
      rw[O,N]
      exact pbind h0 fun v=>j v)
 |fieldAddr ty x f =>
  have e:=k x (by simp[Op.operands]);have d:=F rfl x (by simp[Op.operands]);simp only[opK,e]
  (repeat' split)<;>first
   |exact h0
   |(rw[GO d]; exact pb2 h0 (iX ..) (iX ..) fun v=>j v)
 |field ty x f =>
  have e:=k x (by simp[Op.operands]);simp only[opK,e]
  (repeat' split)<;>first|exact h0|exact j _
 |indexAddr ty x i =>
  have s:=k x (by simp[Op.operands]);have A:=k i (by simp[Op.operands]);have d:=F rfl x (by simp[Op.operands]);simp only[opK,s,A]
  (repeat' split)<;>first
   |exact h0
   |exact j _
   |exact pb2 h0 (Ŝ ..) (Ŝ ..) fun v=>j _
   |(rw[Hw d]; exact pb2 h0 (i8 ..) (i8 ..) fun v=>j v)
 |index ty x i =>
  have s:=k x (by simp[Op.operands]);have A:=k i (by simp[Op.operands]);simp only[opK,s,A]
  (repeat' split)<;>first|exact h0|exact j _|exact pb2 h0 (ŵ ..) (ŵ ..) fun v=>j v|exact pb2 h0 (Ŝ ..) (Ŝ ..) fun v=>by(repeat' split)<;>first|exact h0|exact j _
 |lookup ty m i ok =>
  have s:=k m (by simp[Op.operands]);have A:=k i (by simp[Op.operands]);have d:=F rfl m (by simp[Op.operands]);simp only[opK,s,A]
  cases q:ev t m with
  |ofn id =>
   rw[q] at d;simp only;rw[Fz (d id (by simp[refs1,ö]))];exact pb2 h0 (gk ..) (gk ..) fun v=>j v
  |_ =>
   rw[q] at d;simp only;rw[Fy d];exact pb2 h0 (gj ..) (gj ..) fun v=>j v
 |extract x i =>
  have e:=k x (by simp[Op.operands]);simp only[opK,e]
  (repeat' split)<;>first|exact h0|exact j _
 |call c =>
  obtain⟨C,u,tys⟩:=c
  cases C with
  |builtin b =>
   have e:=yi (l:=u.toList) (t:=t) (t2:=t2) fun x q=>k x (by simpa[Op.operands,Call.operands] using q);have d:cls E (.call ⟨.builtin b,u,tys⟩)=1->∀x∈u.toList,∀id∈refs1 (ev t x),lkB h2 id=lkB h id:=fun h1 x q=>F h1 x (by simpa[Op.operands,Call.operands] using q);generalize I:u.toList=l at e d;generalize q:tys.toList=m
   cases b with
   |append=>simp[cls] at z
   |clear=>simp[cls] at z
   |len =>
    rcases l with _|⟨x,_|⟨y,l⟩⟩<;>rcases m with _|⟨ty,m⟩<;>simp only[opK,I,q]<;>try exact h0
    have s:ev t2 x=ev t x:=by simpa using e
    rw[s,MV (d rfl x (by simp))];exact pb2 h0 (pq ..) (pq ..) fun v=>j v
   |cap =>
    rcases l with _|⟨x,_|⟨y,l⟩⟩<;>rcases m with _|⟨ty,m⟩<;>simp only[opK,I,q]<;>try exact h0
    have s:ev t2 x=ev t x:=by simpa using e
    rw[s]
    (repeat' split)<;>first|exact h0|exact j _
   |min =>
    rcases l with _|⟨x,l⟩<;>simp only[opK,I,q]<;>try exact h0
    simp only[cm,List.cons.injEq] at e;rw[e.1,e.2];exact pb2 h0 (Ŕ _ _ _ _) (Ŕ _ _ _ _) fun v=>j v
   |max =>
    rcases l with _|⟨x,l⟩<;>simp only[opK,I,q]<;>try exact h0
    simp only[cm,List.cons.injEq] at e;rw[e.1,e.2];exact pb2 h0 (Ŕ _ _ _ _) (Ŕ _ _ _ _) fun v=>j v
   |_=>simp only[opK]; (repeat' split)<;>first|exact h0|contradiction
  |value f=>cases G
  |invoke r m=>exact h0
 |store=>simp[cls] at z
 |mapUpdate=>simp[cls] at z
 |insert=>simp[cls] at z
 |_=>exact h0
def aps (ups:AS (Nat×Blk)) (h:AS Blk):AS Blk:=ups.foldl (fun h p=>Ú h p.1 p.2) h
def vN {id:Nat} {B:Blk}:aps [(id,B)] h=Ú h id B:=rfl
def fp {u v:AS (Nat×Blk)}:aps (u++v) h=aps v (aps u h):=by simp[aps]
def lS:∀(ups:AS (Nat×Blk)) (h:AS Blk),(aps ups h).length=h.length
 |[],_=>rfl
 |p::ups,h=>by show(aps ups (Ú h p.1 p.2)).length=_; rw[lS ups,Ê]
def Cl {id:Nat}:∀{ups:AS (Nat×Blk)} {h:AS Blk},(∀p∈ups,p.1≠id)->lkB (aps ups h) id=lkB h id
 |[],_,_=>rfl
 |p::ups,h,b=>by
  show lkB (aps ups (Ú h p.1 p.2)) id=_;rw[Cl fun q c=>b q (by simp[c]),È _ (Ne.symm (b p (by simp)))]
def pR {id:Nat}:∀{ups:AS (Nat×Blk)} {h h2:AS Blk},h2.length=h.length->lkB h2 id=lkB h id->lkB (aps ups h2) id=lkB (aps ups h) id
 |[],_,_,_,b=>b
 |p::ups,h,h2,c,b=>pR (ups:=ups) (h:=Ú h p.1 p.2) (h2:=Ú h2 p.1 p.2) (by simp[Ê,c]) (by simp only[kq,c,b])
def Jf {v:AV} (i:∀id∈ö v,lkB h2 id=lkB h id):∃ups,jF h v=aps ups h/\jF h2 v=aps ups h2/\∀p∈ups,p.1∈ö v:=by
 have c:jF h v=h->jF h2 v=h2->∃ups,jF h v=aps ups h/\jF h2 v=aps ups h2/\∀p∈ups,p.1∈ö v:=fun h1 d=>⟨[],h1,d,by simp⟩
 cases v with
 |own id g =>
  have e:=i id (by simp[ö])
  cases b:lkB h id with
  |row t g fz xs =>
   rw[b] at e;exact⟨[(id,.row t g true xs)],by simp only[jF,b]; rfl,by simp only[jF,e]; rfl,by simp[ö]⟩
  |_=>rw[b] at e; exact c (by simp only[jF,b]) (by simp only[jF,e])
 |sub id g lo n =>
  have e:=i id (by simp[ö])
  cases b:lkB h id with
  |row t g fz xs =>
   rw[b] at e;exact⟨[(id,.row t g true xs)],by simp only[jF,b]; rfl,by simp only[jF,e]; rfl,by simp[ö]⟩
  |_=>rw[b] at e; exact c (by simp only[jF,b]) (by simp only[jF,e])
 |_=>exact c rfl rfl
def Dn:∀{cs:AS AV} {h h2:AS Blk},h2.length=h.length->(∀c∈cs,∀id∈ö c,lkB h2 id=lkB h id)->∃ups,pY h cs=aps ups h/\pY h2 cs=aps ups h2/\∀p∈ups,∃c∈cs,p.1∈ö c
 |[],_,_,_,_=>⟨[],rfl,rfl,by simp⟩
 |c::cs,h,h2,j,i=>by
  obtain⟨u,h1,e,n⟩:=Jf (i c (by simp));obtain⟨v,m,l,k⟩:=Dn (cs:=cs) (h:=jF h c) (h2:=jF h2 c) (by rw[gx,gx,j]) (fun d hd id hi=>by rw[h1,e]; exact pR j (i d (by simp[hd]) id hi));refine⟨u++v,by simp only[pY]; rw[m,h1,fp],by simp only[pY]; rw[l,e,fp],fun p b=>?_⟩;rcases bw.1 b with b|b
  ·exact⟨c,by simp,n p b⟩
  ·obtain⟨d,hd,hi⟩:=k p b;exact⟨d,by simp[hd],hi⟩
def Dl {v:AV} (k:h2.length=h.length) (j:∀id∈refs1 v,lkB h2 id=lkB h id):∃ups,frz h v=aps ups h/\frz h2 v=aps ups h2/\∀p∈ups,p.1∈refs1 v:=by
 have one:(∀id∈ö v,lkB h2 id=lkB h id)->∃ups,jF h v=aps ups h/\jF h2 v=aps ups h2/\∀p∈ups,p.1∈ö v:=Jf
 cases v with
 |agg cs =>
  obtain⟨u,h1,d,i⟩:=Dn (cs:=cs) k fun c l id hi=>j id (bP.2 ⟨c,l,hi⟩);exact⟨u,h1,d,fun p e=>bP.2 (i p e)⟩
 |fn f a b =>
  obtain⟨u,h1,d,i⟩:=one fun _ hi=>by cases hi
  exact⟨u,h1,d,fun p e=>by cases i p e⟩
 |_=>exact one j
def vV {ty:Ty} {x:AV} (b:∀id∈refs1 x,lkB h2 id=lkB h id):Ï (.slice ty) [ç h2 x]=Ï (.slice ty) [ç h x]:=by
 have:ç h2 x=ç h x:=iW fun id hi=>b id (by cases x<;>first|exact hi|simp[ö] at hi)
 rw[this]
def KZ {v:AV} {vs:AS AV} (d:ģ v=some vs):∀c∈vs,∀id∈ö c,id∈refs1 v:=by
 intro c b id hi
 cases v<;>simp only[ģ,Option.some.injEq,reduceCtorEq] at d<;>subst d
 all_goals first
  |(simp only[bE] at b; subst b; exact hi)
  |(simp only[bE] at b; subst b; cases hi; done)
  |exact bP.2 ⟨c,b,hi⟩
def D8 {σ σ2:Type} {R:AN σ->AN σ2->Prop} {ty:TypeId} {a v:AV} {K:AS Blk->AN σ} {K2:AS Blk->AN σ2} (h0:R none none) (d:h2.length=h.length)
 (k:∀id∈refs1 a,lkB h2 id=lkB h id) (n:∀id∈refs1 v,lkB h2 id=lkB h id) (m:∀ups,(∀p∈ups,p.1∈refs1 a\/p.1∈refs1 v)->R (K (aps ups h)) (K2 (aps ups h2))):R (ng P h ty a v K) (ng P h2 ty a v K2):=by
 unfold ng
 split<;>try exact h0
 rename_i vs l
 split<;>try exact h0
 split<;>try exact h0
 ·rename_i id off;have e:=k id (by simp[refs1,ö]);rw[e]
  (repeat' split)<;>first
   |exact h0
   |exact m [(id,_)] fun p b=>.inl (by simp only[bE] at b; subst b; simp[refs1,ö])
 ·rename_i id g i off;have e:=k id (by simp[refs1,ö]);obtain⟨u,s,o,z⟩:=Dl (v:=v) d n
  have B:lkB (frz h2 v) id=lkB (frz h v) id:=by rw[s,o]; exact pR d e
  have A:vs.map (ç h2)=vs.map (ç h):=cM fun c y=>iW fun id hi=>n id (KZ l c y id hi);rw[B,A]
  (repeat' split)<;>first
   |exact h0
   | (rw [s, o]
      refine m (u++[(id,_)]) (fun p b=>?_) |> fun q=>(by simpa only[fp,vN] using q)
      rcases bw.1 b with b|b
      ·exact .inr (z p b)
      ·exact .inl (by simp only[bE] at b; subst b; simp[refs1,ö]))
 ·rename_i id g i j;have e:=k id (by simp[refs1,ö]);rw[e]
  (repeat' split)<;>first
   |exact h0
   |exact m [(id,_)] fun p b=>.inl (by simp only[bE] at b; subst b; simp[refs1,ö])
def Jd:∀{ps:AS (Nat×AV)} {h h2:AS Blk},h2.length=h.length->(∀p∈ps,∀id∈refs1 p.2,lkB h2 id=lkB h id)->∃ups,frzA h ps=aps ups h/\frzA h2 ps=aps ups h2/\∀p∈ups,∃q∈ps,p.1∈refs1 q.2
 |[],_,_,_,_=>⟨[],rfl,rfl,by simp⟩
 |(i,v)::ps,h,h2,e,j=>by
  obtain⟨u,h1,b,n⟩:=Dl (v:=v) e (j (i,v) (by simp));obtain⟨w,m,l,k⟩:=Jd (ps:=ps) (h:=frz h v) (h2:=frz h2 v) (by rw[h1,b,lS,lS,e]) (fun q d id hi=>by rw[h1,b]; exact pR e (j q (by simp[d]) id hi));refine⟨u++w,by simp only[frzA]; rw[m,h1,fp],by simp only[frzA]; rw[l,b,fp],fun p c=>?_⟩;rcases bw.1 c with c|c
  ·exact⟨(i,v),by simp,n p c⟩
  ·obtain⟨q,d,hi⟩:=k p c;exact⟨q,by simp[d],hi⟩
def Ri {σ σ2:Type} {R:AN σ->AN σ2->Prop} {E:Env ρ} {o:Op} {nid:Nat} {eat:Bool} {K:AV->St->AN σ} {K2:AV->St->AN σ2} (h0:R none none) (W:cls E o=2) (X:BV o=false) (k:h2.length=h.length) (heat:∀ty n ps,o=.buildSlice ty n ps->eat=false)
 (I:∀x∈o.operands.toList,ev t2 x=ev t x) (S:∀x∈o.operands.toList,∀id∈refs1 (ev t x),lkB h2 id=lkB h id)
 (F:∀v ups,(∀p∈ups,(p.1=nid/\ð E.clone o=true)\/∃x∈o.operands.toList,p.1∈refs1 (ev t x))->R (K v {t:=t,h:=aps ups h}) (K2 v {t:=t2,h:=aps ups h2})) :
 R (opK P {t:=t,h:=h} nid eat o K) (opK P {t:=t2,h:=h2} nid eat o K2):=by
 cases o with
 |buildSlice ty n ps =>
  obtain rfl:=heat ty n ps rfl;have e:=Mo (l:=ps.toList) (t:=t) (t2:=t2) fun x A=>I x (by simpa[Op.operands] using A)
  have hsp:∀p∈ps.toList.map (fun p=>(p.1,ev t p.2)),∀id∈refs1 p.2,lkB h2 id=lkB h id:=fun p d=>by
   obtain⟨q,hq,rfl⟩:=cD.1 d;exact S q.2 (by simpa[Op.operands] using⟨q.1,by simpa using hq⟩)
  have hr:∀ty n,Ac h2 ty n (ps.toList.map fun p=>(p.1,ev t p.2))=Ac h ty n (ps.toList.map fun p=>(p.1,ev t p.2)):=fun ty n=>Bf hsp;obtain⟨u,f1,f2,f3⟩:=Jd k hsp;simp only[opK,e,hr,f1,f2]
  (repeat' split)<;>first
   |exact h0
   | (refine F _ (u ++ [(nid, _)]) (fun p d => ?_) |> fun q => (by simpa only [fp, vN] using q)
      rcases bw.1 d with d|d
      ·obtain⟨q,hq,hi⟩:=f3 p d;obtain⟨q',hq',rfl⟩:=cD.1 hq;exact .inr ⟨q'.2,by simpa[Op.operands] using⟨q'.1,by simpa using hq'⟩,hi⟩
      ·exact .inl ⟨by simp only[bE] at d; subst d; rfl,rfl⟩)
 |store ty a v =>
  have e1:=I a (by simp[Op.operands]);have e2:=I v (by simp[Op.operands]);have G:=S a (by simp[Op.operands]);have s2:=S v (by simp[Op.operands]);have ma:∀{id:Nat},id∈refs1 (ev t a)->∃x∈(Op.store ty a v).operands.toList,id∈refs1 (ev t x):=fun hi=>⟨a,by simp[Op.operands],hi⟩;have mv:∀{id:Nat},id∈refs1 (ev t v)->∃x∈(Op.store ty a v).operands.toList,id∈refs1 (ev t x):=fun hi=>⟨v,by simp[Op.operands],hi⟩;simp only[opK,e1,e2]
  cases eat with
  |false =>
   simp only;exact D8 h0 k G s2 fun ups V=>F _ ups fun p d=>.inr ((V p d).elim ma mv)
  |true =>
   simp only
   cases J:ev t v with
   |sub id g lo n =>
    rw[J] at s2 mv;have Y:=s2 id (by simp[refs1,ö]);simp only[Y]
    split<;>try exact h0
    split<;>try exact h0
    refine D8 h0 (by simp[Ê,k]) (fun j hj=>?_) (fun j hj=>?_) fun ups V=>F _ ((id,_)::ups) fun p d=>.inr ?_
    ·exact pR (ups:=[(id,_)]) k (G j hj)
    ·simp only[refs1,ö,bE] at hj;subst hj;exact pR (ups:=[(_,_)]) k Y
    ·rcases bC.1 d with rfl|d
     ·exact mv (by simp[refs1,ö])
     ·rcases V p d with V|V
      ·exact ma V
      ·exact mv (by simpa[refs1,ö] using V)
   |_=>exact h0
 |mapUpdate ty m i x =>
  have e1:=I m (by simp[Op.operands]);have e2:=I i (by simp[Op.operands]);have Y:=I x (by simp[Op.operands]);have G:=S m (by simp[Op.operands]);have Z:=S x (by simp[Op.operands]);obtain⟨u,f1,f2,f3⟩:=Dl (v:=ev t x) k Z;simp only[opK,e1,e2,Y]
  split
  ·rename_i id A;rw[A] at G;unfold Ť;rw[G id (by simp[refs1,ö])]
   (repeat' split)<;>first
    |exact h0
    | (refine F _ [(id, _)] (fun p d => ?_) |> fun q => (by simpa only [vN] using q)
       exact .inr ⟨m,by simp[Op.operands],by simp only[bE] at d; subst d; rw[A]; simp[refs1,ö]⟩)
  unfold ţ;rw[sc Z]
  split<;>try exact h0
  split<;>try exact h0
  rename_i id A;rw[A] at G;rw[G id (by simp[refs1,ö])]
  (repeat' split)<;>first
   |exact h0
   | (rw [f1, f2]
      refine F _ (u++[(id,_)]) (fun p d=>?_) |> fun q=>(by simpa only[fp,vN] using q)
      rcases bw.1 d with d|d
      ·exact .inr ⟨x,by simp[Op.operands],f3 p d⟩
      ·exact .inr ⟨m,by simp[Op.operands],by simp only[bE] at d; subst d; rw[A]; simp[refs1,ö]⟩)
 |insert ty m i x =>
  have e1:=I m (by simp[Op.operands]);have e2:=I i (by simp[Op.operands]);have Y:=I x (by simp[Op.operands]);have G:=S m (by simp[Op.operands]);have Z:=S x (by simp[Op.operands]);obtain⟨u,f1,f2,f3⟩:=Dl (v:=ev t x) k Z;simp only[opK,e1,e2,Y]
  split
  ·rename_i id A;rw[A] at G;unfold Ť;rw[G id (by simp[refs1,ö])]
   (repeat' split)<;>first
    |exact h0
    | (refine F _ [(id, _)] (fun p d => ?_) |> fun q => (by simpa only [vN] using q)
       exact .inr ⟨m,by simp[Op.operands],by simp only[bE] at d; subst d; rw[A]; simp[refs1,ö]⟩)
  unfold ţ;rw[sc Z]
  split<;>try exact h0
  split<;>try exact h0
  rename_i id A;rw[A] at G;rw[G id (by simp[refs1,ö])]
  (repeat' split)<;>first
   |exact h0
   | (rw [f1, f2]
      refine F _ (u++[(id,_)]) (fun p d=>?_) |> fun q=>(by simpa only[fp,vN] using q)
      rcases bw.1 d with d|d
      ·exact .inr ⟨x,by simp[Op.operands],f3 p d⟩
      ·exact .inr ⟨m,by simp[Op.operands],by simp only[bE] at d; subst d; rw[A]; simp[refs1,ö]⟩)
 |call c =>
  obtain⟨O,s,tys⟩:=c
  cases O with
  |builtin b =>
   have e:=yi (l:=s.toList) (t:=t) (t2:=t2) fun x A=>I x (by simpa[Op.operands,Call.operands] using A);have N:∀x∈s.toList,∀id∈refs1 (ev t x),lkB h2 id=lkB h id:=fun x A=>S x (by simpa[Op.operands,Call.operands] using A)
   have C:∀x∈s.toList,x∈(Op.call ⟨.builtin b,s,tys⟩).operands.toList:=fun x A=>by simpa[Op.operands,Call.operands] using A
   generalize hl:s.toList=l at e N C;generalize A:tys.toList=m
   cases b with
   |append =>
    rcases l with _|⟨x,_|⟨y,_|⟨z,l⟩⟩⟩<;>rcases m with _|⟨ty,_|⟨ty',_|⟨ty'',m⟩⟩⟩<;>simp only[opK,hl,A]<;>try exact h0
    simp only[cm,List.cons.injEq,dC,and_true] at e;rw[e.1,e.2];have U:=N x (by simp);have sy:=N y (by simp);have T:∀v B,R (K v {t:=t,h:=Ú h nid B}) (K2 v {t:=t2,h:=Ú h2 nid B}):=fun v B=>F v [(nid,B)] fun p d=>.inl ⟨by simp only[bE] at d; subst d; rfl,rfl⟩
    (repeat' split)<;>first
     |exact h0
     | (unfold oY
        simp only[vV sy]
        split<;>try exact h0
        split<;>try exact h0
        split<;>try exact h0
        split<;>try exact h0
        split<;>try exact h0
        ·split<;>first|exact h0|exact T _ _
        ·rename_i id g J;rw[J] at U;rw[U id (by simp[refs1,ö])]
         (repeat' split)<;>first
          |exact h0
          |exact F _ [(id,_)] fun p d=>.inr ⟨x,C x (by simp),by simp only[bE] at d; subst d; rw[J]; simp[refs1,ö]⟩)
     | (rename_i L g2 hdp
        rw[hdp] at sy;have my:∃q∈(Op.call ⟨.builtin .append,s,tys⟩).operands.toList,L∈refs1 (ev t q):=⟨y,C y (by simp),by rw[hdp]; simp[refs1,ö]⟩;unfold FZ;rw[sy L (by simp[refs1,ö])]
        split<;>try exact h0
        split<;>try exact h0
        split<;>try exact h0
        split<;>try exact h0
        split<;>try exact h0
        ·split<;>first
          |exact h0
          |exact F _ [(L,_),(nid,_)] fun p d=>by
             simp only[bC,cR,or_false] at d;rcases d with rfl|rfl
             ·exact .inr my
             ·exact .inl ⟨rfl,rfl⟩
        ·rename_i id g J;rw[J] at U;have mx:∃q∈(Op.call ⟨.builtin .append,s,tys⟩).operands.toList,id∈refs1 (ev t q):=⟨x,C x (by simp),by rw[J]; simp[refs1,ö]⟩;rw[U id (by simp[refs1,ö])]
         (repeat' split)<;>first
          |exact h0
          |exact F _ [(L,_),(id,_)] fun p d=>by
             simp only[bC,cR,or_false] at d;rcases d with rfl|rfl
             ·exact .inr my
             ·exact .inr mx)
     | (unfold vT
        (repeat' split)<;>first|exact h0|exact T _ _)
   |clear =>
    rcases l with _|⟨x,_|⟨y,l⟩⟩<;>rcases m with _|⟨ty,_|⟨ty',m⟩⟩<;>simp only[opK,hl,A]<;>try exact h0
    simp only[cm,List.cons.injEq,dC,and_true] at e;rw[e];have U:=N x (by simp)
    split<;>try exact h0
    unfold wy
    split<;>try exact h0
    ·exact F _ [] (by simp)
    ·rename_i id g lo n _ J _;rw[J] at U;rw[U id (by simp[refs1,ö])]
     (repeat' split)<;>first
      |exact h0
      |exact F _ [(id,_)] fun p d=>.inr ⟨x,C x (by simp),by simp only[bE] at d; subst d; rw[J]; simp[refs1,ö]⟩
   |_=>simp[cls] at W
  |value f=>cases X
  |invoke r m=>simp[cls] at W
 |_=>simp[cls] at W
end
end Go.Am
end

noncomputable section
namespace Go.Am
variable [Globs] [É]
section
variable {ρ:Type} {P:Program} {h h2:AS Blk} {t t2:AS AV}
def Gi {ty:Ty} {a:AV} (b:hZ h h2 a):OI h2 ty a=OI h ty a:=by
 have d:Ij h2 a=Ij h a:=sc b.one
 cases ty with
 |ptr u =>
  cases a with
  |box id off =>
   cases off with
   |zero =>
    have h1:lkB h2 id=lkB h id:=b.one id (by simp[refs1,ö]);simp only[OI,h1]
    cases e:lkB h id with
    |cells cs =>
     simp only
     have:cs.map (ç h2)=cs.map (ç h):=cM fun c j=>iW fun i hi=>b i (by
      simp only[refs2,bw,bP]
      exact .inr ⟨id,by simp[refs1,ö],by rw[e]; exact⟨c,j,hi⟩⟩)
     rw[this]
    |_=>rfl
   |succ n=>rfl
  |eptr t' x off=>cases off<;>rfl
  |_=>rfl
 |_=>cases a with
  |dp id g =>
   have h1:lkB h2 id=lkB h id:=b.one id (by simp[refs1,ö]);simp only[OI,h1]
  |_=>simp only[OI,d]
def Cj:∀{l:AS Ty} {ty:Ty} {as:AS AV},(∀a∈as,hZ h h2 a)->DM h2 l ty as=DM h l ty as
 |[],ty,[],_=>rfl
 |[],ty,[a],c=>by simp only[DM]; exact Gi (c a (by simp))
 |[],ty,_::_::_,_=>rfl
 |u::l,ty,[],_=>rfl
 |u::l,ty,a::as,c=>by
  simp only[DM];rw[Gi (c a (by simp)),Cj fun b hb=>c b (by simp[hb])]
def Ck {l:AS Ty} {as:AS AV} (b:∀a∈as,hZ h h2 a):rR h2 l as=rR h l as:=by
 cases l with
 |nil=>rfl
 |cons ty l=>exact Cj b
def HC {E:Env ρ} {o:Op} (c:∀x∈o.operands.toList,ev t2 x=ev t x):B9 E t2 o=B9 E t o:=by
 unfold B9
 split
 ·rename_i s b tys;rw[c (.tmp s) (by simp[Op.operands,Call.operands])]
 ·rfl
def zA {E:Env ρ} {o:Op} (d:∀x∈o.operands.toList,ev t2 x=ev t x) (e:1<=cls E o->∀x∈o.operands.toList,hZ h h2 (ev t x)) :
 f9 E {t:=t2,h:=h2} o=f9 E {t:=t,h:=h} o:=by
 unfold f9
 split
 ·rename_i i;have b:1<=cls E o:=ca i
  have h1:(o.operands.toList.all fun x=>(refs2 h2 (ev t2 x)).all fun id=>!M6 (lkB h2 id))=o.operands.toList.all fun x=>(refs2 h (ev t x)).all fun id=>!M6 (lkB h id):=by
   rw[dj];simp only[bR];refine forall_congr' fun x=>forall_congr' fun c=>?_;rw[d x c,(e b x c).refs]
   exact forall_congr' fun id=>forall_congr' fun hi=>by rw[e b x c id hi]
  exact congr (congrArg and h1) (HC d)
 ·rfl
def iN {E:Env ρ} {o:Op} (b:1<=cls E o) {id:Nat}:id∈pZ E {t:=t,h:=h} o↔∃x∈o.operands.toList,id∈refs2 h (ev t x):=by
 unfold pZ;have:Nat.ble 1 (cls E o)=true:=Nat.ble_eq_true_of_le b;simp only[this,List.mem_flatMap]
def tX {E:Env ρ} {o:Op} (b:cls E o=0) {S:St}:pZ E S o=[]:=by
 unfold pZ; rw[b]
def Loc (E:Env ρ) (o:Op) (nid:Nat) (t:AS AV) (h:AS Blk) (t2:AS AV) (h2:AS Blk) (z b:(AV->St->AN ρ)->AN ρ):Prop :=
 ∃φ:AN (AV×AS (Nat×Blk)),(∀r,φ=some r->∀p∈r.2,(p.1=nid/\ð E.clone o=true)\/(cls E o=2/\p.1∈pZ E {t:=t,h:=h} o)) /\
  (∀K,z K=φ.bind fun r=>K r.1 {t:=t,h:=aps r.2 h})/\∀K,b K=φ.bind fun r=>K r.1 {t:=t2,h:=aps r.2 h2}
def Loc.no {E:Env ρ} {o:Op} {nid:Nat} {z c:(AV->St->AN ρ)->AN ρ} (h1:∀K,z K=none) (b:∀K,c K=none):Loc E o nid t h t2 h2 z c :=
 ⟨none,by simp,fun K=>by rw[h1]; rfl,fun K=>by rw[b]; rfl⟩
def NG {σ σ2:Type} {R:AN σ->AN σ2->Prop} {g nid:Nat} {fz:Bool} {x:AV} {K:AV->St->AN σ} {K2:AV->St->AN σ2} (h0:R none none) (d:∀id∈refs1 x,lkB h2 id=lkB h id)
 (b:∀v c,R (K v {t:=t,h:=ap nid c h}) (K2 v {t:=t2,h:=ap nid c h2})):R (oT P g fz {t:=t,h:=h} nid x K) (oT P g fz {t:=t2,h:=h2} nid x K2):=by
 simp only[oT,vV d]
 (repeat' split)<;>first|exact h0|exact b _ none|exact b _ (some _)
def efU (nid:Nat):AN Blk->AS (Nat×Blk)
 |none=>[]
 |some B=>[(nid,B)]
def JM {nid:Nat} {b:AN Blk}:ap nid b h=aps (efU nid b) h:=by cases b<;>rfl
def Q7 {E:Env ρ} {call:AS Nat->Bool->Nat->AS AV->AS Blk->(AV->AS Blk->AN ρ)->AN ρ} {fid:Nat} {path:AS Nat} {nid:Nat} {o:Oper}
 (k:Ou E call) (L:cls E o.op<=2) (hlen:h2.length=h.length) (hx:∀x∈o.op.operands.toList,ev t2 x=ev t x) (hs:1<=cls E o.op->∀x∈o.op.operands.toList,hZ h h2 (ev t x)) :
 Loc E o.op nid t h t2 h2 (ŋ E call fid path true {t:=t,h:=h} nid o) (ŋ E call fid path true {t:=t2,h:=h2} nid o):=by
 have z:=zA hx hs
 cases N:f9 E {t:=t,h:=h} o.op with
 |false=>exact .no (fun K=>by simp[ŋ,N]) (fun K=>by simp[ŋ,z,N])
 |true =>
  rw[N] at z
  have plain:(∀f d tys,o.op≠.call ⟨.value f,d,tys⟩)->Loc E o.op nid t h t2 h2 (ŋ E call fid path true {t:=t,h:=h} nid o) (ŋ E call fid path true {t:=t2,h:=h2} nid o):=by
   intro hno
   have C:∀S:St,f9 E S o.op=true->∀K,ŋ E call fid path true S nid o K=opK E.P S nid (AP E true fid o) o.op K:=fun S Z K=>by
    unfold ŋ;simp only[Z,Bool.not_true,Bool.and_false,Bool.false_and]
   have Y:BV o.op=false:=by
    cases J:o.op<;>try rfl
    rename_i c;obtain⟨f,d,tys⟩:=c
    cases f<;>first|rfl|exact absurd J (hno _ _ _)
   have fin:(∃φ:AN (AV×AS (Nat×Blk)),(∀r,φ=some r->∀p∈r.2,(p.1=nid/\ð E.clone o.op=true)\/(cls E o.op=2/\p.1∈pZ E {t:=t,h:=h} o.op)) /\
    opK E.P {t:=t,h:=h} nid (AP E true fid o) o.op (fun v S=>some (v,S))=φ.map (fun r=>(r.1,({t:=t,h:=aps r.2 h}:St)))/\opK E.P {t:=t2,h:=h2} nid (AP E true fid o) o.op (fun v S=>some (v,S))=φ.map fun r=>(r.1,({t:=t2,h:=aps r.2 h2}:St))) ->
    Loc E o.op nid t h t2 h2 (ŋ E call fid path true {t:=t,h:=h} nid o) (ŋ E call fid path true {t:=t2,h:=h2} nid o):=by
    rintro⟨φ,h1,h2',h3⟩;refine⟨φ,h1,fun K=>?_,fun K=>?_⟩
    ·rw[C _ N,CS]; unfold opR; rw[h2']; cases φ<;>rfl
    ·rw[C _ z,CS]; unfold opR; rw[h3]; cases φ<;>rfl
   apply fin
   by_cases h2c:cls E o.op=2
   ·refine Ri (P:=E.P) (E:=E) (o:=o.op) (nid:=nid) (σ:=AV×St) (σ2:=AV×St) (K:=fun v S=>some (v,S)) (K2:=fun v S=>some (v,S))
     (R:=fun x y=>∃φ:AN (AV×AS (Nat×Blk)),(∀r,φ=some r->∀p∈r.2,(p.1=nid/\ð E.clone o.op=true)\/(cls E o.op=2/\p.1∈pZ E {t:=t,h:=h} o.op))/\x=φ.map (fun r=>(r.1,({t:=t,h:=aps r.2 h}:St)))/\y=φ.map fun r=>(r.1,({t:=t2,h:=aps r.2 h2}:St)))
     ⟨none,by simp,rfl,rfl⟩ h2c Y hlen (fun ty n ps J=>by rw[AP,J]; rfl) hx (fun x G=>(hs (by omega) x G).one) fun v ups hu=>⟨some (v,ups),fun r I p m=>?_,rfl,rfl⟩
    cases I;rcases hu p m with hu|⟨x,G,hi⟩
    ·exact .inl hu
    ·exact .inr ⟨h2c,(iN (by omega)).2 ⟨x,G,by simp only[refs2,bw]; exact .inl hi⟩⟩
   ·have hea:AP E true fid o=false:=by
     unfold AP
     cases J:o.op<;>first|rfl|(exfalso; apply h2c; rw[J]; rfl)
    rw[hea]
    refine Qw (P:=E.P) (E:=E) (o:=o.op) (nid:=nid) (σ:=AV×St) (σ2:=AV×St) (K:=fun v S=>some (v,S)) (K2:=fun v S=>some (v,S))
     (R:=fun x y=>∃φ:AN (AV×AS (Nat×Blk)),(∀r,φ=some r->∀p∈r.2,(p.1=nid/\ð E.clone o.op=true)\/(cls E o.op=2/\p.1∈pZ E {t:=t,h:=h} o.op))/\x=φ.map (fun r=>(r.1,({t:=t,h:=aps r.2 h}:St)))/\y=φ.map fun r=>(r.1,({t:=t2,h:=aps r.2 h2}:St)))
     ⟨none,by simp,rfl,rfl⟩ (by omega) Y hx (fun h1 x G=>(hs (by omega) x G).one) fun v ef hef=>⟨some (v,efU nid ef),fun r I p m=>?_,by rw[JM]; rfl,by rw[JM]; rfl⟩
    cases I
    cases ef with
    |none=>cases m
    |some B =>
     simp only[efU,bE] at m;subst m;exact .inl ⟨rfl,hef rfl⟩
  cases J:o.op with
  |call c =>
   obtain⟨f,d,tys⟩:=c
   cases f with
   |value f =>
    cases f with
    |func g =>
     rw[J] at hx hs L;have hxa:∀x∈d.toList,ev t2 x=ev t x:=fun x G=>hx x (by simp[Op.operands,Call.operands]; exact .inr (by simpa using G))
     have j:∀x∈d.toList,x∈(Op.call ⟨.value (.func g),d,tys⟩).operands.toList:=fun x G=>by simp[Op.operands,Call.operands]; exact .inr (by simpa using G)
     have he:=yi hxa
     cases hc:E.clone g with
     |true =>
      have hcls:cls E (.call ⟨.value (.func g),d,tys⟩)=1:=by simp[cls,hc]
      have C:∀(S:St),f9 E S o.op=true->∀K,ŋ E call fid path true S nid o K=match d.toList with
       |[x]=>oT E.P g (E.eat fid (o.dst.getD 0)) S nid (ev S.t x) K
       |_=>none:=fun S Z K=>by
       unfold ŋ;simp only[Z,Bool.not_true,Bool.and_false];rw[J];simp only[ev,hc,KF,Bool.and_self];rfl
      generalize hl:d.toList=l at C he hxa j;rcases l with _|⟨x,_|⟨y,l⟩⟩
      ·exact .no (fun K=>C _ N K) (fun K=>C _ z K)
      ·have hsx:=(hs (by omega) x (j x (by simp))).one;have e1:=hxa x (by simp)
       obtain⟨φ,h1,h2',h3⟩:=NG (P:=E.P) (g:=g) (fz:=E.eat fid (o.dst.getD 0)) (nid:=nid) (t:=t) (t2:=t2) (σ:=AV×St) (σ2:=AV×St) (K:=fun v S=>some (v,S)) (K2:=fun v S=>some (v,S))
        (R:=fun x y=>∃φ:AN (AV×AS (Nat×Blk)),(∀r,φ=some r->∀p∈r.2,p.1=nid)/\x=φ.map (fun r=>(r.1,({t:=t,h:=aps r.2 h}:St)))/\y=φ.map fun r=>(r.1,{t:=t2,h:=aps r.2 h2}))
        ⟨none,by simp,rfl,rfl⟩ hsx fun v ef=>⟨some (v,efU nid ef),fun r I p m=>by
         cases I
         cases ef with
         |none=>cases m
         |some B=>simp only[efU,bE] at m; rw[m],by rw[JM]; rfl,by rw[JM]; rfl⟩
       refine⟨φ,fun r I p m=>.inl ⟨h1 r I p m,by simpa[ð] using hc⟩,fun K=>?_,fun K=>?_⟩
       ·rw[C _ N];simp only;rw[vD,h2']
        cases φ<;>rfl
       ·rw[C _ z];simp only[e1];rw[vD,h3]
        cases φ<;>rfl
      ·exact .no (fun K=>C _ N K) (fun K=>C _ z K)
     |false =>
      have C:∀(S:St),f9 E S o.op=true->∀K,ŋ E call fid path true S nid o K=call path true g (d.toList.map (ev S.t)) S.h fun v h=>K v {t:=S.t,h:=h}:=fun S Z K=>by
       unfold ŋ;simp only[Z,Bool.not_true,Bool.and_false];rw[J];simp only[ev,hc,KF,Bool.false_and,List.nil_append,List.append_nil]
      rcases k with k|⟨k,hse,hce⟩
      ·exact .no (fun K=>by rw[C _ N]; exact k _ _ _ _ _ _) (fun K=>by rw[C _ z]; exact k _ _ _ _ _ _)
      cases m:E.pure g with
      |none =>
       have h1c:1<=cls E (.call ⟨.value (.func g),d,tys⟩):=by simp only[cls,hc,m]; cases E.sort g<;>cases E.compact g<;>simp
       have row:∀(f:AS Blk->AV->(AV->AS Blk->AN ρ)->AN ρ),(∀S K,f9 E S o.op=true->ŋ E call fid path true S nid o K=match d.toList.map (ev S.t) with|[x]=>f S.h x fun v h=>K v {t:=S.t,h:=h}|_=>none)->cls E (.call ⟨.value (.func g),d,tys⟩)=2 ->
        (∀x,(∀id∈refs1 x,lkB h2 id=lkB h id)->∃φ:AN (AV×AS (Nat×Blk)),(∀r,φ=some r->∀p∈r.2,p.1∈refs1 x)/\(∀K,f h x K=φ.bind fun r=>K r.1 (aps r.2 h))/\∀K,f h2 x K=φ.bind fun r=>K r.1 (aps r.2 h2)) ->
        Loc E (.call ⟨.value (.func g),d,tys⟩) nid t h t2 h2 (ŋ E call fid path true {t:=t,h:=h} nid o) (ŋ E call fid path true {t:=t2,h:=h2} nid o):=by
        intro f O h2c hloc;generalize hl:d.toList=l at O he j;rcases l with _|⟨x,_|⟨y,l⟩⟩
        ·exact .no (fun K=>O _ K N) (fun K=>O _ K z)
        ·obtain⟨φ,q1,q2,q3⟩:=hloc (ev t x) (hs h1c x (j x (by simp))).one;refine⟨φ,fun r I p m=>.inr ⟨h2c,(iN h1c).2 ⟨x,j x (by simp),by simp only[refs2,bw]; exact .inl (q1 r I p m)⟩⟩,fun K=>?_,fun K=>?_⟩
         ·rw[O _ K N];exact q2 _
         ·rw[O _ K z];simp only[he];exact q3 _
        ·exact .no (fun K=>O _ K N) (fun K=>O _ K z)
       cases V:E.sort g with
       |true =>
        refine row Cs (fun S K Z=>(C S Z K).trans (hse g m V path true _ S.h _)) (by simp[cls,hc,m,V]) fun x hx1=>?_;unfold Cs
        cases x with
        |own id g =>
         have e3:=hx1 id (by simp[refs1,ö]);simp only[e3]
         cases lkB h id with
         |row ty g' fz xs =>
          cases fz<;>simp only
          ·split
           ·split
            ·split
             ·exact⟨some (_,[(id,_)]),by simp[refs1,ö],fun K=>rfl,fun K=>rfl⟩
             ·exact⟨none,by simp,fun K=>rfl,fun K=>rfl⟩
            ·exact⟨none,by simp,fun K=>rfl,fun K=>rfl⟩
           ·exact⟨none,by simp,fun K=>rfl,fun K=>rfl⟩
          ·exact⟨none,by simp,fun K=>rfl,fun K=>rfl⟩
         |_=>exact⟨none,by simp,fun K=>rfl,fun K=>rfl⟩
        |nils=>exact⟨some (_,[]),by simp,fun K=>rfl,fun K=>rfl⟩
        |_=>exact⟨none,by simp,fun K=>rfl,fun K=>rfl⟩
       |false =>
        cases hco:E.compact g with
        |true =>
         refine row iR (fun S K Z=>(C S Z K).trans (hce g m V hco path true _ S.h _)) (by simp[cls,hc,m,V,hco]) fun x hx1=>?_;unfold iR
         cases x with
         |own id g =>
          have e3:=hx1 id (by simp[refs1,ö]);simp only[e3]
          cases lkB h id with
          |row ty g' fz xs =>
           cases fz<;>simp only
           ·split
            ·split
             ·split
              ·exact⟨some (_,[(id,_)]),by simp[refs1,ö],fun K=>rfl,fun K=>rfl⟩
              ·exact⟨none,by simp,fun K=>rfl,fun K=>rfl⟩
             ·exact⟨none,by simp,fun K=>rfl,fun K=>rfl⟩
            ·exact⟨none,by simp,fun K=>rfl,fun K=>rfl⟩
           ·exact⟨none,by simp,fun K=>rfl,fun K=>rfl⟩
          |_=>exact⟨none,by simp,fun K=>rfl,fun K=>rfl⟩
         |nils=>exact⟨some (_,[]),by simp,fun K=>rfl,fun K=>rfl⟩
         |_=>exact⟨none,by simp,fun K=>rfl,fun K=>rfl⟩
        |false=>simp[cls,hc,m,V,hco] at L
      |some p =>
       have h1c:1<=cls E (.call ⟨.value (.func g),d,tys⟩):=by simp only[cls,hc,m]; cases E.fz g<;>simp
       have hsa:∀a∈d.toList.map (ev t),hZ h h2 a:=fun a ha=>by
        obtain⟨x,G,rfl⟩:=cD.1 ha;exact hs h1c x (j x G)
       obtain⟨u,f1,f2,f3⟩:=Dn (cs:=(d.toList.map (ev t)).flatMap fS) hlen fun c hcm id hi=>by
        obtain⟨a,ha,A⟩:=bP.1 hcm;refine(hsa a ha).one id ?_
        cases a<;>first
         |(simp only[fS,bE] at A; subst A; exact hi)
         |(simp only[fS,bE] at A; subst A; cases hi; done)
         |exact bP.2 ⟨c,A,hi⟩
       have f3':∀q∈u,∃x∈d.toList,q.1∈refs2 h (ev t x):=fun q hq=>by
        obtain⟨c,hcm,hi⟩:=f3 q hq;obtain⟨a,ha,A⟩:=bP.1 hcm;obtain⟨x,G,rfl⟩:=cD.1 ha;refine⟨x,G,?_⟩;simp only[refs2,bw];left;generalize ev t x=a at A
        cases a<;>first
         |(simp only[fS,bE] at A; subst A; exact hi)
         |(simp only[fS,bE] at A; subst A; cases hi; done)
         |exact bP.2 ⟨c,A,hi⟩
       have W:∀(b:Bool) (h':AS Blk),rR h' p.ts (d.toList.map (ev t))=rR h p.ts (d.toList.map (ev t))->pY h' ((d.toList.map (ev t)).flatMap fS)=aps u h'->∀(K:AV->AS Blk->AN ρ),
        CC b p h' (d.toList.map (ev t)) K=(match rR h p.ts (d.toList.map (ev t)) with
        |some x=>(p.F x).bind fun y=>match xS (Gy p.rs y) with
         |true=>some (Gy p.rs y,[])
         |false=>match (d.toList.map (ev t)).all (fun a=>!zW a) with
          |true=>some (Gy p.rs y,[])
          |false=>match b||!(d.toList.map (ev t)).all Mh with
           |true=>none
           |false=>some (Gy p.rs y,u)
        |none=>none).bind fun r=>K r.1 (aps r.2 h'):=fun b h' ha O K=>by
        unfold CC Â;rw[ha,O]
        cases rR h p.ts (d.toList.map (ev t)) with
        |none=>rfl
        |some x =>
         simp only
         cases p.F x with
         |none=>rfl
         |some y =>
          simp only[cz]
          cases xS (Gy p.rs y) with
          |true=>rfl
          |false=>cases(d.toList.map (ev t)).all (fun a=>!zW a) with
           |true=>rfl
           |false=>cases b||!(d.toList.map (ev t)).all Mh<;>rfl
       refine⟨_,?_,fun K=>(C _ N K).trans ((k g p m path true _ h _).trans (W (true&&!E.fz g) h rfl f1 _)),fun K=>(C _ z K).trans (by simp only[he]; exact(k g p m path true _ h2 _).trans (W (true&&!E.fz g) h2 (Ck hsa) f2 _))⟩;intro r e q hq
       have hcase:r.2=[]\/(E.fz g=true/\r.2=u):=by
        cases hA:rR h p.ts (d.toList.map (ev t)) with
        |none=>rw[hA] at e; cases e
        |some x =>
         rw[hA] at e;simp only at e
         cases hF:p.F x with
         |none=>rw[hF] at e; cases e
         |some y =>
          rw[hF] at e;simp only[cz] at e
          split at e
          ·cases e; exact .inl rfl
          ·split at e
           ·cases e; exact .inl rfl
           ·split at e
            ·cases e
            ·rename_i hb;cases e;simp only[cT,Bool.or_eq_false_iff,df] at hb;exact .inr ⟨hb.1,rfl⟩
       rcases hcase with hz|⟨hfz,hz⟩
       ·rw[hz] at hq; cases hq
       ·rw[hz] at hq;obtain⟨x,G,hi⟩:=f3' q hq;exact .inr ⟨by simp[cls,hc,m,hfz],(iN h1c).2 ⟨x,j x G,hi⟩⟩
    |tmp s =>
     rw[J] at hx hs L
     obtain⟨g,hg⟩:∃g,E.hint s=some g:=by
      cases hh:E.hint s with
      |none=>simp[cls,hh] at L
      |some g=>exact⟨g,rfl⟩
     have hpf:(E.pure g).isSome=true/\E.fz g=false:=by
      simp only[cls,hg] at L
      split at L
      ·rename_i hb; simpa using hb
      ·omega
     obtain⟨hpg,hfz⟩:=hpf;obtain⟨p,m⟩:=dV.1 hpg
     have hcls:cls E (.call ⟨.value (.tmp s),d,tys⟩)=1:=by simp[cls,hg,m,hfz]
     have j:∀x∈d.toList,x∈(Op.call ⟨.value (.tmp s),d,tys⟩).operands.toList:=fun x G=>by simp[Op.operands,Call.operands]; exact .inr (by simpa using G)
     have hms:Operand.tmp s∈(Op.call ⟨.value (.tmp s),d,tys⟩).operands.toList:=by simp[Op.operands,Call.operands]
     have he:=yi fun x G=>hx x (j x G)
     have X:B9 E t (.call ⟨.value (.tmp s),d,tys⟩)=true:=by
      have h1:=N;unfold f9 at h1;rw[J] at h1
      have hb1:Nat.ble 1 (cls E (.call ⟨.value (.tmp s),d,tys⟩))=true:=by rw[hcls]; rfl
      simp only[hb1,bu] at h1;exact h1.2
     simp only[B9,hg] at X
     split at X<;>try (cases X; done)
     rename_i g' U T hfn;simp only[bu,bR] at X;obtain⟨hgg,hna,hnb⟩:=X;have hgg:g'=g:=bD hgg;subst hgg;have hfn2:=(hx _ hms).trans hfn
     have C:∀(S:St),f9 E S o.op=true->ev S.t (.tmp s)=.fn (.func g') U T->∀K,ŋ E call fid path true S nid o K=call path true g' (U++(d.toList.map (ev S.t)++T)) S.h fun v h=>K v {t:=S.t,h:=h}:=fun S Z hSf K=>by
      unfold ŋ;simp only[Z,Bool.not_true,Bool.and_false];rw[J];simp only[hSf,KF,Bool.and_false]
     rcases k with k|⟨k,hse,hce⟩
     ·exact .no (fun K=>by rw[C _ N hfn]; exact k _ _ _ _ _ _) (fun K=>by rw[C _ z hfn2]; exact k _ _ _ _ _ _)
     have hcap:∀v,(v∈U\/v∈T)->Rl v=true->hZ h h2 v:=fun v hv hn id hi=>by
      refine hs (by omega) _ hms id ?_;rw[hfn]
      have e1:Go.Am.refs1 v=LJ v:=by cases v<;>first|rfl|cases hn
      simp only[refs2,bw,bP,e1] at hi ⊢
      have hsub:∀i,i∈LJ v->i∈Go.Am.refs1 (.fn (.func g') U T):=fun i hi=>by
       simp only[Go.Am.refs1,bw,bP];exact hv.imp (fun h=>⟨v,h,hi⟩) fun h=>⟨v,h,hi⟩
      rcases hi with hi|⟨i,hi,q⟩
      ·exact .inl (hsub _ hi)
      ·exact .inr ⟨i,hsub _ hi,q⟩
     have hsa:∀a∈U++(d.toList.map (ev t)++T),hZ h h2 a:=fun a ha=>by
      rcases bw.1 ha with ha|ha
      ·exact hcap a (.inl ha) (hna a ha)
      ·rcases bw.1 ha with ha|ha
       ·obtain⟨x,G,rfl⟩:=cD.1 ha;exact hs (by omega) x (j x G)
       ·exact hcap a (.inr ha) (hnb a ha)
     have W:∀(h':AS Blk),rR h' p.ts (U++(d.toList.map (ev t)++T))=rR h p.ts (U++(d.toList.map (ev t)++T))->∀(K:AV->AS Blk->AN ρ),
      CC (true&&!E.fz g') p h' (U++(d.toList.map (ev t)++T)) K=(match rR h p.ts (U++(d.toList.map (ev t)++T)) with
      |some x=>(p.F x).bind fun y=>match xS (Gy p.rs y) with
       |true=>some (Gy p.rs y,([]:AS (Nat×Blk)))
       |false=>match (U++(d.toList.map (ev t)++T)).all (fun a=>!zW a) with
        |true=>some (Gy p.rs y,[])
        |false=>none
      |none=>none).bind fun r=>K r.1 (aps r.2 h'):=fun h' ha K=>by
      unfold CC Â;rw[ha,hfz]
      cases rR h p.ts (U++(d.toList.map (ev t)++T)) with
      |none=>rfl
      |some x =>
       simp only
       cases p.F x with
       |none=>rfl
       |some y =>
        simp only[cz]
        cases xS (Gy p.rs y) with
        |true=>rfl
        |false=>cases(U++(d.toList.map (ev t)++T)).all (fun a=>!zW a)<;>rfl
     refine⟨_,?_,fun K=>(C _ N hfn K).trans ((k g' p m path true _ h _).trans (W h rfl _)),fun K=>(C _ z hfn2 K).trans (by simp only[he]; exact(k g' p m path true _ h2 _).trans (W h2 (Ck hsa) _))⟩;intro r e q hq;exfalso
     cases hA:rR h p.ts (U++(d.toList.map (ev t)++T)) with
     |none=>rw[hA] at e; cases e
     |some x =>
      rw[hA] at e;simp only at e
      cases hF:p.F x with
      |none=>rw[hF] at e; cases e
      |some y =>
       rw[hF] at e;simp only[cz] at e
       split at e
       ·cases e; cases hq
       ·split at e<;>cases e
        cases hq
    |_=>rw[J] at L; simp[cls] at L
   |_=>exact J▸plain fun _ _ _ O=>by rw[J] at O; cases O
  |_=>exact J▸plain fun _ _ _ O=>by rw[J] at O; cases O
def Q3 {l:AS Operand} (c:∀s∈A5 l,lk t2 s=lk t s):∀x∈l,ev t2 x=ev t x:=by
 induction l with
 |nil=>intro x b; cases b
 |cons y l d =>
  intro x b;rcases bC.1 b with rfl|b
  ·cases x with
   |tmp i=>exact c i (by simp[A5])
   |_=>rfl
  ·refine d (fun s e=>c s ?_) x b
   cases y<;>simp[A5,e]
def Ia:∀(t:AS AV) {d c:Nat} (v b:AV),d≠c->upd (upd t d v) c b=upd (upd t c b) d v
 |[],_,_,_,_,_=>rfl
 |_::_,0,0,_,_,h=>absurd rfl h
 |_::_,0,_+1,_,_,_=>rfl
 |_::_,_+1,0,_,_,_=>rfl
 |x::t,d+1,c+1,v,b,h=>by simp only[upd]; rw[Ia t v b (by omega)]
def D2:∀(t:AS Blk) {d c:Nat} (v b:Blk),d≠c->Ú (Ú t d v) c b=Ú (Ú t c b) d v
 |[],_,_,_,_,_=>rfl
 |_::_,0,0,_,_,h=>absurd rfl h
 |_::_,0,_+1,_,_,_=>rfl
 |_::_,_+1,0,_,_,_=>rfl
 |x::t,d+1,c+1,v,b,h=>by simp only[Ú]; rw[D2 t v b (by omega)]
def xM {c b:AN Nat} (hd:∀x,c=some x->b≠some x) (e d:AV):é (é t c e) b d=é (é t b d) c e:=by
 cases c with
 |none=>rfl
 |some x=>cases b with
  |none=>rfl
  |some y=>exact Ia t e d fun h=>hd x rfl (by rw[h])
def nT {d:AN Nat} {s:Nat} (hd:d≠some s) (v:AV):lk (é t d v) s=lk t s:=by
 cases d with
 |none=>rfl
 |some x =>
  simp only[é,I4];rw[if_neg];rintro⟨rfl,_⟩;exact hd rfl
def JL:∀{u v:AS (Nat×Blk)} {h:AS Blk},(∀p∈u,∀q∈v,p.1≠q.1)->aps v (aps u h)=aps u (aps v h)
 |[],_,_,_=>rfl
 |p::u,v,h,c=>by
  show aps v (aps u (Ú h p.1 p.2))=aps u (Ú (aps v h) p.1 p.2);rw[JL fun q b=>c q (by simp[b])];congr 1
  have:∀(v:AS (Nat×Blk)) (h:AS Blk),(∀q∈v,p.1≠q.1)->aps v (Ú h p.1 p.2)=Ú (aps v h) p.1 p.2:=by
   intro v
   induction v with
   |nil=>intro h _; rfl
   |cons q v d =>
    intro h b;show aps v (Ú (Ú h p.1 p.2) q.1 q.2)=Ú (aps v (Ú h q.1 q.2)) p.1 p.2;rw[D2 _ _ _ (b q (by simp)),d _ fun r e=>b r (by simp[e])]
  exact this v h (c p (by simp))
def Ĵ (all:AS Oper) (o:Oper) (t:AS AV):AN Bool :=
 match o.guard with
 |none=>some true
 |some (j,want)=>match lk t (iL all j) with
  |.bool b=>some (b==want)
  |.und=>some false
  |_=>none
def nI (E:Env ρ) (all:AS Oper) (o:Oper) (S:St):AS Nat :=
 match Ĵ all o S.t with
 |some true=>pZ E S o.op
 |_=>[]
def nw (E:Env ρ) (call:AS Nat->Bool->Nat->AS AV->AS Blk->(AV->AS Blk->AN ρ)->AN ρ) (fid:Nat) (path:AS Nat) (all:AS Oper) (b:AS Nat) (acc:AS (Nat×AS Nat)) (i nid:Nat) (o:Oper) (S:St) (K:AS Nat->St->AN ρ):AN ρ :=
 match Ĵ all o S.t==some true&&!chk E all b acc i (pZ E S o.op) with
 |true=>none
 |false=>jd E call fid path true all i nid o S (K (nI E all o S))
def L4 {E:Env ρ} {call:AS Nat->Bool->Nat->AS AV->AS Blk->(AV->AS Blk->AN ρ)->AN ρ} {fid:Nat} {path:AS Nat} {all:AS Oper} {c:AS Nat} {o:Oper} {os:AS Oper} {i nid:Nat} {acc:AS (Nat×AS Nat)} {S:St} {K:St->AN ρ} :
 L5 E call fid path all c (o::os) i nid acc S K=nw E call fid path all c acc i nid o S fun F m=>L5 E call fid path all c os (i+1) (bif ð E.clone o.op then nid+1 else nid) ((i,F)::acc) m K:=by
 have k:∀d b,lk S.t d=.bool b->({t:=upd S.t d (.bool b),h:=S.h}:St)=S:=fun d b hb=>by rw[<-hb,rW]
 have e:∀d b,lk S.t d=.bool b->upd S.t d (.bool b)=S.t:=fun d b hb=>by rw[<-hb,rW]
 simp only[L5,nw,jd,nI,Ĵ]
 cases o.guard with
 |none=>cases chk E all c acc i (pZ E S o.op)<;>rfl
 |some g =>
  obtain⟨j,l⟩:=g;simp only
  cases hb:lk S.t (iL all j)<;>try rfl
  rename_i b;have h1:=k _ b hb;have h2:=e _ b hb
  cases b<;>cases l<;>simp only[h1,h2]<;>first
   |rfl
   |(cases chk E all c acc i (pZ E S o.op)<;>rfl)
def tY {E:Env ρ} {o:Op} (i:∀x∈o.operands.toList,ev t2 x=ev t x) (j:1<=cls E o->∀x∈o.operands.toList,hZ h h2 (ev t x)):pZ E {t:=t2,h:=h2} o=pZ E {t:=t,h:=h} o:=by
 unfold pZ
 split
 ·rename_i k;have c:1<=cls E o:=ca k
  have:∀l:AS Operand,(∀x∈l,x∈o.operands.toList)->(l.flatMap fun x=>refs2 h2 (ev t2 x))=l.flatMap fun x=>refs2 h (ev t x):=by
   intro l
   induction l with
   |nil=>intro _; rfl
   |cons x l d =>
    intro b;simp only[cn];rw[i x (b x (by simp)),(j c x (b x (by simp))).refs,d fun y e=>b y (by simp[e])]
  exact this _ fun _ h=>h
 ·rfl
def wa {all:AS Oper} {o:Oper} (b:∀s∈ő all o,lk t2 s=lk t s):∀x∈o.op.operands.toList,ev t2 x=ev t x:=Q3 fun s c=>b s (by simp only[ő,bw]; exact .inr c)
def š {all:AS Oper} {o:Oper} (c:∀s∈ő all o,lk t2 s=lk t s):Ĵ all o t2=Ĵ all o t:=by
 unfold Ĵ
 cases d:o.guard with
 |none=>rfl
 |some g =>
  obtain⟨j,b⟩:=g;simp only;rw[c _ (by simp[ő,d])]
def OK {E:Env ρ} {o:Op} (d:1<=cls E o) (b:f9 E {t:=t,h:=h} o=true):∀id∈pZ E {t:=t,h:=h} o,lkB h id≠.dead:=fun id hi hd=>by
 obtain⟨x,e,hi⟩:=(iN d).1 hi;unfold f9 at b;have c:Nat.ble 1 (cls E o)=true:=Nat.ble_eq_true_of_le d;simp only[c,Bool.and_eq_true,List.all_eq_true] at b;have:=b.1 x e id hi;rw[hd] at this;cases this
def xf {E:Env ρ} {call:AS Nat->Bool->Nat->AS AV->AS Blk->(AV->AS Blk->AN ρ)->AN ρ} {fid:Nat} {path:AS Nat} {all:AS Oper} {i nid:Nat} {o:Oper} (I:ρ)
 (A:Ou E call) (C:cls E o.op<=2) (q:h2.length=h.length) (F:∀s∈ő all o,lk t2 s=lk t s)
 (L:Ĵ all o t=some true->1<=cls E o.op->∀x∈o.op.operands.toList,hZ h h2 (ev t x)) :
 ∃φ:AN (AV×AS (Nat×Blk)),(∀r,φ=some r->∀p∈r.2,(p.1=nid/\ð E.clone o.op=true)\/(cls E o.op=2/\p.1∈nI E all o {t:=t,h:=h})) /\
  (∀r,φ=some r->∀id∈nI E all o {t:=t,h:=h},lkB h id≠.dead) /\
  (∀K,jd E call fid path true all i nid o {t:=t,h:=h} K=φ.bind fun r=>K {t:=é t o.dst r.1,h:=aps r.2 h}) /\
  ∀K,jd E call fid path true all i nid o {t:=t2,h:=h2} K=φ.bind fun r=>K {t:=é t2 o.dst r.1,h:=aps r.2 h2}:=by
 have J:=wa (t:=t) (t2:=t2) (o:=o) F;have d:=š (t:=t) (t2:=t2) (o:=o) F
 cases e:Ĵ all o t with
 |none =>
  rw[e] at d
  have:∀(S:St),Ĵ all o S.t=none->∀K,jd E call fid path true all i nid o S K=none:=fun S c K=>by
   unfold Ĵ at c;unfold jd
   cases l:o.guard with
   |none=>rw[l] at c; cases c
   |some g =>
    obtain⟨j,k⟩:=g;rw[l] at c;simp only at c ⊢
    cases hb:lk S.t (iL all j)<;>rw[hb] at c<;>first|rfl|cases c
  exact⟨none,by simp,by simp,fun K=>this _ e K,fun K=>this _ d K⟩
 |some b =>
  cases b with
  |false =>
   rw[e] at d
   have:∀(S:St),Ĵ all o S.t=some false->∀K,jd E call fid path true all i nid o S K=K {t:=é S.t o.dst .und,h:=S.h}:=fun S c K=>by
    unfold Ĵ at c;unfold jd
    cases l:o.guard with
    |none=>rw[l] at c; cases c
    |some g =>
     obtain⟨j,k⟩:=g;rw[l] at c;simp only at c ⊢
     cases hb:lk S.t (iL all j)<;>rw[hb] at c<;>first|rfl|(cases c; done)|skip
     simp only[Option.some.injEq] at c ⊢;rw[c]
   refine⟨some (.und,[]),?_,?_,fun K=>this _ e K,fun K=>this _ d K⟩
   ·intro r m p B;cases m;cases B
   ·intro r m id hi;simp only[nI,e] at hi;cases hi
  |true =>
   rw[e] at d
   have n:∀(S:St),Ĵ all o S.t=some true->∀K,jd E call fid path true all i nid o S K=ŋ E call fid (path++[i]) true S nid o fun v S=>K {t:=é S.t o.dst v,h:=S.h}:=fun S c K=>by
    unfold Ĵ at c;unfold jd
    cases l:o.guard with
    |none=>rfl
    |some g =>
     obtain⟨j,k⟩:=g;rw[l] at c;simp only at c ⊢
     cases hb:lk S.t (iL all j)<;>rw[hb] at c<;>first|(cases c; done)|skip
     simp only[Option.some.injEq] at c ⊢;rw[c]
   obtain⟨φ,h1,y,O⟩:=Q7 (fid:=fid) (path:=path++[i]) (nid:=nid) A C q J (L e)
   have u:nI E all o {t:=t,h:=h}=pZ E {t:=t,h:=h} o.op:=by simp only[nI,e]
   refine⟨φ,fun r m p B=>?_,fun r m id hi=>?_,fun K=>by rw[n _ e,y],fun K=>by rw[n _ d,O]⟩
   ·rw[u]; exact h1 r m p B
   ·rw[u] at hi
    by_cases N:1<=cls E o.op
    ·refine OK N ?_ id hi
     cases z:f9 E {t:=t,h:=h} o.op with
     |true=>rfl
     |false =>
      exfalso;have G:=y fun v S=>some I;rw[m] at G;simp[ŋ,z] at G
    ·rw[tX (by omega)] at hi;cases hi
def oS:∀{l m:AS Nat},disj l m=true↔∀x∈l,x∉m
 |[],m=>by simp[disj]
 |x::l,m=>by
  simp only[disj,bu,cg,cN,bC,forall_eq_or_imp,oS (l:=l)];refine and_congr_left fun _=>⟨fun h c=>h x c (Nat.beq_refl x),fun h y b d=>?_⟩;have:=bD d;subst this;exact h b
structure Qq (E:Env ρ) (all:AS Oper) (bef:AS Nat) (ia ib:Nat) (a b:Oper):Prop where
 ha:all[ia]?=some a
 hb:all[ib]?=some b
 a3:cls E a.op<=2
 b3:cls E b.op<=2\/cls E a.op=0
 rb:∀s∈ő all b,a.dst≠some s
 ra:∀s∈ő all a,b.dst≠some s
 dd:∀x,a.dst=some x->b.dst≠some x
 bab:(bef.getD ib 0).testBit ia=false
 bba:(bef.getD ia 0).testBit ib=false
def NE (E:Env ρ) (o:Op):cls E o<=3:=by
 cases o with
 |call c =>
  obtain⟨f,d,tys⟩:=c
  cases f with
  |value f=>cases f<;>simp only[cls]<;>(repeat' split)<;>omega
  |builtin b=>cases b<;>simp[cls]
  |_=>simp[cls]
 |_=>simp[cls]
def HG {E:Env ρ} {all:AS Oper} {c:AS Nat} {ia ib:Nat} {a b:Oper} (e:PW E all a b=false) (ha:all[ia]?=some a) (hb:all[ib]?=some b) (h1:(c.getD ib 0).testBit ia=false) (h2:(c.getD ia 0).testBit ib=false):Qq E all c ia ib a b:=by
 unfold PW at e;simp only[Bool.or_eq_false_iff,beq_eq_false_iff_ne] at e;obtain⟨⟨⟨⟨_,z,j⟩,m⟩,l⟩,k⟩:=e;have y:=NE E a.op;have v:=NE E b.op
 have i:cls E b.op<=2\/cls E a.op=0:=by
  by_cases u:cls E b.op=3
  ·rw[u] at j;right
   by_cases q:1<=cls E a.op
   ·rw[eZ q] at j; cases j
   ·omega
  ·left; omega
 refine⟨ha,hb,by omega,i,fun s d hd=>?_,fun s d hd=>?_,fun x o n=>?_,h1,h2⟩
 ·rw[hd] at m;simp[Ps,d] at m
 ·rw[hd] at l;simp[Ps,d] at l
 ·rw[o,n] at k;simp at k
def sj {E:Env ρ} {all:AS Oper} {c:AS Nat} {j i:Nat} {a b:Oper} {e k:AS Nat} (d:sk E all c j i e k=true) (ha:all[j]?=some a) (hb:all[i]?=some b) (h1:(c.getD j 0).testBit i=false) (h2:(c.getD i 0).testBit j=false)
 (l:qV E a.op b.op=true):∀x∈e,x∉k:=by
 unfold sk at d;simp only[ha,hb,l,h1,h2,Bool.not_true,Bool.false_or] at d;exact oS.1 d
def HH {E:Env ρ} {a b:Op}:qV E a b=qV E b a:=by
 unfold qV; cases cls E a==2<;>cases cls E b==2<;>cases Nat.ble 1 (cls E a)<;>cases Nat.ble 1 (cls E b)<;>rfl
def G4 {E:Env ρ} {all:AS Oper} {d:AS Nat} {j i:Nat} {e k:AS Nat} (c:sk E all d j i e k=true):sk E all d i j k e=true:=by
 unfold sk at c ⊢
 cases ha:all[j]? with
 |none=>rw[ha] at c; cases c
 |some a=>cases hb:all[i]? with
  |none=>rw[ha,hb] at c; cases c
  |some b =>
   rw[ha,hb] at c;simp only[Bool.or_eq_true,cg] at c ⊢;rw[HH];rcases c with c|c|c|c
   ·exact .inl c
   ·exact .inr (.inr (.inl c))
   ·exact .inr (.inl c)
   ·exact .inr (.inr (.inr (oS.2 fun x m l=>oS.1 c x l m)))
def jb {E:Env ρ} {a b:Op}:qV E a b=true↔(cls E a=2/\1<=cls E b)\/(1<=cls E a/\cls E b=2):=by
 unfold qV;simp only[Bool.or_eq_true,Bool.and_eq_true,beq_iff_eq,Nat.ble_eq]
def iS {E:Env ρ} {all:AS Oper} {b:AS Nat} {acc:AS (Nat×AS Nat)} {p:Nat×AS Nat} {i:Nat} {F:AS Nat}:chk E all b (p::acc) i F=(sk E all b p.1 i p.2 F&&chk E all b acc i F):=by
 simp[chk]
def uO {E:Env ρ} {all:AS Oper} {c:AS Nat} {j i:Nat} {a b:Oper} {d:AS Nat} (ha:all[j]?=some a) (hb:all[i]?=some b):sk E all c j i d []=true:=by
 unfold sk;simp only[ha,hb,Bool.or_eq_true];exact .inr (.inr (.inr (oS.2 fun x _=>by simp)))
def zi {E:Env ρ} {all:AS Oper} {o:Oper} (c:∀s∈ő all o,lk t2 s=lk t s) (e:Ĵ all o t=some true->1<=cls E o.op->∀x∈o.op.operands.toList,hZ h h2 (ev t x)):nI E all o {t:=t2,h:=h2}=nI E all o {t:=t,h:=h}:=by
 unfold nI;simp only[š (t:=t) (t2:=t2) c]
 cases d:Ĵ all o t with
 |none=>rfl
 |some b=>cases b with
  |false=>rfl
  |true=>exact tY (wa c) (e d)
def KV {E:Env ρ} {o:Op} (h:cls E o=0):ð E.clone o=false:=by
 cases o with
 |call c =>
  obtain⟨f,d,tys⟩:=c
  cases f with
  |value f=>cases f<;>simp only[cls] at h<;>(repeat' split at h)<;>first|omega|rfl|(cases h; done)
  |builtin b=>cases b<;>simp[cls] at h
  |_=>simp[cls] at h
 |_=>first|rfl|(simp[cls] at h; done)
def NF {E:Env ρ} {o:Op} (h:cls E o=0):BV o=false:=by
 cases o with
 |call c =>
  obtain⟨f,b,tys⟩:=c
  cases f with
  |value f=>cases f<;>simp only[cls] at h<;>(repeat' split at h)<;>first|omega|(cases h; done)
  |_=>rfl
 |_=>rfl
def O4 {E:Env ρ} {call:AS Nat->Bool->Nat->AS AV->AS Blk->(AV->AS Blk->AN ρ)->AN ρ} {fid:Nat} {path:AS Nat} {nid:Nat} {o:Oper} (d:cls E o.op=0) :
 ∃φ:AN AV,∀(t2:AS AV) (h2:AS Blk),(∀x∈o.op.operands.toList,ev t2 x=ev t x)->∀K,ŋ E call fid path true {t:=t2,h:=h2} nid o K=φ.bind fun v=>K v {t:=t2,h:=h2}:=by
 have b:=NF d;have k:=KV d
 have q:∀S:St,∀K,ŋ E call fid path true S nid o K=opK E.P S nid false o.op K:=fun S K=>by
  have n:f9 E S o.op=true:=by
   unfold f9
   have:Nat.ble 1 (cls E o.op)=false:=by rw[d]; rfl
   rw[this]
  have j:AP E true fid o=false:=by
   unfold AP
   cases s:o.op<;>first|rfl|(rw[s] at d; simp[cls] at d; done)
  unfold ŋ;simp only[n,j,Bool.not_true,Bool.and_false]
  cases i:o.op with
  |call c =>
   obtain⟨f,l,tys⟩:=c;rw[i] at b
   cases f with
   |value f=>cases b
   |_=>rfl
  |_=>rfl
 refine⟨opK E.P {t:=t,h:=[]} nid false o.op fun v _=>some v,fun t2 h2 m K=>?_⟩;rw[q,CS]
 have:=Qw (P:=E.P) (E:=E) (o:=o.op) (nid:=nid) (σ:=AV) (σ2:=AV×St) (t:=t) (t2:=t2) (h:=[]) (h2:=h2) (K:=fun v _=>some v) (K2:=fun v S=>some (v,S)) (R:=fun x y=>y=x.map fun v=>(v,({t:=t2,h:=h2}:St)))
  rfl (by omega) b m (fun h1=>by omega) fun v u e=>by
   cases u with
   |none=>rfl
   |some B=>rw[k] at e; exact absurd (e rfl) (by simp)
 unfold opR;rw[this]
 cases opK E.P {t:=t,h:=[]} nid false o.op (fun v _=>some v)<;>rfl
def Lv {E:Env ρ} {call:AS Nat->Bool->Nat->AS AV->AS Blk->(AV->AS Blk->AN ρ)->AN ρ} {fid:Nat} {path:AS Nat} {all:AS Oper} {i nid:Nat} {o:Oper} (n:cls E o.op=0) (t:AS AV) :
 ∃φ:AN AV,∀(t2:AS AV) (h2:AS Blk),(∀s∈ő all o,lk t2 s=lk t s)->∀K,jd E call fid path true all i nid o {t:=t2,h:=h2} K=φ.bind fun v=>K {t:=é t2 o.dst v,h:=h2}:=by
 obtain⟨φ,l⟩:=O4 (call:=call) (fid:=fid) (path:=path++[i]) (nid:=nid) (t:=t) n
 cases m:Ĵ all o t with
 |none =>
  refine⟨none,fun t2 h2 k K=>?_⟩;have c:=(š (t:=t) (t2:=t2) k).trans m;unfold Ĵ at c;unfold jd
  cases e:o.guard with
  |none=>rw[e] at c; cases c
  |some g =>
   obtain⟨j,d⟩:=g;rw[e] at c;simp only at c ⊢
   cases hb:lk t2 (iL all j)<;>rw[hb] at c<;>first|rfl|cases c
 |some b =>
  cases b with
  |false =>
   refine⟨some .und,fun t2 h2 k K=>?_⟩;have c:=(š (t:=t) (t2:=t2) k).trans m;unfold Ĵ at c;unfold jd
   cases e:o.guard with
   |none=>rw[e] at c; cases c
   |some g =>
    obtain⟨j,d⟩:=g;rw[e] at c;simp only at c ⊢
    cases hb:lk t2 (iL all j)<;>rw[hb] at c<;>first|rfl|(cases c; done)|skip
    simp only[Option.some.injEq] at c ⊢;rw[c];rfl
  |true =>
   refine⟨φ,fun t2 h2 k K=>?_⟩;have c:=(š (t:=t) (t2:=t2) k).trans m;have q:=l t2 h2 (wa k);unfold Ĵ at c;unfold jd
   cases e:o.guard with
   |none=>exact q _
   |some g =>
    obtain⟨j,d⟩:=g;rw[e] at c;simp only at c ⊢
    cases hb:lk t2 (iL all j)<;>rw[hb] at c<;>first|(cases c; done)|skip
    simp only[Option.some.injEq] at c ⊢;rw[c];exact q _
def LC {E:Env ρ} {call:AS Nat->Bool->Nat->AS AV->AS Blk->(AV->AS Blk->AN ρ)->AN ρ} {fid:Nat} {path:AS Nat} {nid:Nat} {o:Oper} (d:cls E o.op=3) (k:∀x∈o.op.operands.toList,ev t2 x=ev t x) (K:AV->St->AN ρ) :
 ŋ E call fid path true {t:=t2,h:=h} nid o K=ŋ E call fid path true {t:=t,h:=h} nid o fun v S=>K v {t:=t2,h:=S.h}:=by
 have m:f9 E {t:=t2,h:=h} o.op=f9 E {t:=t,h:=h} o.op:=zA k fun _ _ _ _ _=>rfl;unfold ŋ;rw[m]
 cases s:o.op with
 |call c =>
  obtain⟨f,e,tys⟩:=c;rw[s] at k d
  cases f with
  |value f =>
   have z:ev t2 f=ev t f:=k f (by simp[Op.operands,Call.operands]);have i:∀x∈e.toList,ev t2 x=ev t x:=fun x u=>k x (by simp[Op.operands,Call.operands]; exact .inr (by simpa using u));have A:=yi i;simp only[z,A]
   cases j:ev t f with
   |fn g fa fb =>
    cases g with
    |func g =>
     simp only
     cases n:E.clone g&&KF f with
     |false=>rfl
     |true =>
      exfalso;rw[bu] at n
      cases f with
      |func g' =>
       have:g'=g:=by simp only[ev] at j; cases j; rfl
       subst this;simp[cls,n.1] at d
      |_=>simp[KF] at n
    |_=>rfl
   |yld =>
    simp only;rcases q:e.toList with _|⟨x,_|⟨y,l⟩⟩
    ·rfl
    ·simp only; rw[i x (by rw[q]; simp)]
    ·rfl
   |_=>rfl
  |builtin b=>cases b<;>simp[cls] at d
  |_=>rfl
 |_=>rw[s] at d; simp[cls] at d
def JZ {E:Env ρ} {call:AS Nat->Bool->Nat->AS AV->AS Blk->(AV->AS Blk->AN ρ)->AN ρ} {fid:Nat} {path:AS Nat} {all:AS Oper} {i nid:Nat} {o:Oper} (m:cls E o.op=3) (e:∀s∈ő all o,lk t2 s=lk t s) :
 ∃Ψ:(AV->AS Blk->AN ρ)->AN ρ,(∀K,jd E call fid path true all i nid o {t:=t,h:=h} K=Ψ fun v h'=>K {t:=é t o.dst v,h:=h'})/\∀K,jd E call fid path true all i nid o {t:=t2,h:=h} K=Ψ fun v h'=>K {t:=é t2 o.dst v,h:=h'}:=by
 have d:∀t':AS AV,(∀s∈ő all o,lk t' s=lk t s)->∀K,jd E call fid path true all i nid o {t:=t',h:=h} K=(fun k:AV->AS Blk->AN ρ=>match Ĵ all o t with
  |none=>none
  |some false=>k .und h
  |some true=>ŋ E call fid (path++[i]) true {t:=t,h:=h} nid o fun v S=>k v S.h) fun v h'=>K {t:=é t' o.dst v,h:=h'}:=fun t' e K=>by
  have l:=š (t:=t) (t2:=t') (o:=o) e;have n:=LC (call:=call) (fid:=fid) (path:=path++[i]) (nid:=nid) (h:=h) m (wa e);rw[<-l];unfold Ĵ jd
  cases u:o.guard with
  |none=>exact n _
  |some g =>
   obtain⟨j,c⟩:=g;simp only
   cases hb:lk t' (iL all j) with
   |bool b =>
    simp only
    cases q:b==c with
    |true=>exact n _
    |false=>rfl
   |_=>rfl
 exact⟨fun k:AV->AS Blk->AN ρ=>match Ĵ all o t with
  |none=>none
  |some false=>k .und h
  |some true=>ŋ E call fid (path++[i]) true {t:=t,h:=h} nid o fun v S=>k v S.h,d t fun _ _=>rfl,d t2 e⟩
def FN {E:Env ρ} {all:AS Oper} {o:Oper} (b:cls E o.op=0) (S:St):nI E all o S=[]:=by
 unfold nI
 split
 ·exact tX b
 ·rfl
def swap0 {E:Env ρ} {call:AS Nat->Bool->Nat->AS AV->AS Blk->(AV->AS Blk->AN ρ)->AN ρ} {fid:Nat} {path:AS Nat} {all:AS Oper} {d:AS Nat} {acc:AS (Nat×AS Nat)} {ia na ib nb:Nat} {a b:Oper} {K:AS Nat->AS Nat->St->AN ρ} {r:ρ}
 (q:Qq E all d ia ib a b) (ha:cls E a.op=0) (hb:cls E b.op=3)
 (e:nw E call fid path all d acc ia na a {t:=t,h:=h} (fun y S=>nw E call fid path all d ((ia,y)::acc) ib nb b S (K y))=some r) :
 nw E call fid path all d acc ib nb b {t:=t,h:=h} (fun I S=>nw E call fid path all d ((ib,I)::acc) ia na a S fun y=>K y I)=some r:=by
 obtain⟨φ,n⟩:=Lv (call:=call) (fid:=fid) (path:=path) (all:=all) (i:=ia) (nid:=na) ha t;unfold nw at e
 split at e<;>try (cases e; done)
 rename_i k;rw[n t h fun _ _=>rfl] at e;obtain⟨u,J,m⟩:=Ē e;simp only at m
 split at m<;>try (cases m; done)
 rename_i c;have j:∀s∈ő all b,lk (é t a.dst u) s=lk t s:=fun s C=>nT (q.rb s C) _;obtain⟨Ψ,N,L⟩:=JZ (call:=call) (fid:=fid) (path:=path) (all:=all) (i:=ib) (nid:=nb) (h:=h) hb j;rw[L] at m;have A:Ĵ all b (é t a.dst u)=Ĵ all b t:=š j;have F:pZ E {t:=é t a.dst u,h:=h} b.op=pZ E {t:=t,h:=h} b.op:=tY (wa j) fun _ _ _ _ _=>rfl;have G:nI E all b {t:=é t a.dst u,h:=h}=nI E all b {t:=t,h:=h}:=zi j fun _ _ _ _ _ _=>rfl;unfold nw
 split
 ·rename_i z;exfalso;rw[F,A,iS] at c
  cases R:Ĵ all b t==some true<;>rw[R] at z c<;>simp only[Bool.false_and,cT,cg,df,bO] at z c
  rw[z,Bool.and_false] at c;cases c
 ·rw[N];rw[<-m];congr 1;funext v h';have o:∀s∈ő all a,lk (é t b.dst v) s=lk t s:=fun s C=>nT (q.ra s C) _;have B:Ĵ all a (é t b.dst v)=Ĵ all a t:=š o
  have l:¬((Ĵ all a (é t b.dst v)==some true&&!chk E all d ((ib,nI E all b {t:=t,h:=h})::acc) ia (pZ E {t:=é t b.dst v,h:=h'} a.op))=true):=by
   rw[B,tX ha,iS,uO q.hb q.ha,cT];rw[tX ha] at k;exact di.1 k
  dsimp only
  split
  ·rename_i O; exact absurd O l
  ·rw[n _ _ o,J,cz,FN ha,FN ha,G,xM q.dd]
def swap {E:Env ρ} {call:AS Nat->Bool->Nat->AS AV->AS Blk->(AV->AS Blk->AN ρ)->AN ρ} {fid:Nat} {path:AS Nat} {all:AS Oper} {n:AS Nat} {acc:AS (Nat×AS Nat)} {ia na ib nb:Nat} {a b:Oper} {K:AS Nat->AS Nat->St->AN ρ} {r:ρ}
 (hpe:Ou E call) (k:Qq E all n ia ib a b) (hbd:ð E.clone b.op=true->lkB h nb=.dead) (hn:ð E.clone a.op=true->ð E.clone b.op=true->na≠nb)
 (hfar1:ð E.clone a.op=true->∀x∈b.op.operands.toList,na∉refs1 (ev t x))
 (hfar:1<=cls E b.op->ð E.clone a.op=true->(∀p∈acc,∀c,all[p.1]?=some c->qV E c.op b.op=true->(n.getD ib 0).testBit p.1=false->(n.getD p.1 0).testBit ib=false->∀x∈b.op.operands.toList,∀id∈refs1 (ev t x),id∉p.2)->∀x∈b.op.operands.toList,na∉refs2 h (ev t x))
 (e:nw E call fid path all n acc ia na a {t:=t,h:=h} (fun Fa S=>nw E call fid path all n ((ia,Fa)::acc) ib nb b S (K Fa))=some r) :
 nw E call fid path all n acc ib nb b {t:=t,h:=h} (fun Fb S=>nw E call fid path all n ((ib,Fb)::acc) ia na a S fun Fa=>K Fa Fb)=some r:=by
 by_cases hb3:cls E b.op<=2
 case neg =>
  have:=NE E b.op;exact swap0 k (k.b3.resolve_left hb3) (by omega) e
 -- what a does
 obtain⟨φa,a0,a1,a2,_⟩:=xf (t:=t) (t2:=t) (h:=h) (h2:=h) (call:=call) (fid:=fid) (path:=path) (i:=ia) (nid:=na) (all:=all) r hpe k.a3 rfl (fun _ _=>rfl) (fun _ _ _ _ _ _=>rfl);unfold nw at e
 split at e<;>try (cases e; done)
 rename_i J;rw[a2] at e;obtain⟨⟨Z,V⟩,q1,q2⟩:=Ē e;simp only at q2
 split at q2<;>try (cases q2; done)
 rename_i d;have Y:=a1 _ q1;have hea:=a0 _ q1;simp only at hea
 -- b looks at the same
 have C:∀s∈ő all b,lk (é t a.dst Z) s=lk t s:=fun s hs=>nT (k.rb s hs) _;have htb':∀s∈ő all b,lk t s=lk (é t a.dst Z) s:=fun s hs=>(C s hs).symm;have N:=wa C;have hwb:Ĵ all b (é t a.dst Z)=Ĵ all b t:=š C
 have B:1<=cls E b.op->Ĵ all b t=some true->chk E all n ((ia,nI E all a {t:=t,h:=h})::acc) ib (pZ E {t:=é t a.dst Z,h:=aps V h} b.op)=true:=fun _ j=>by
  rw[hwb,j] at d;simpa using d
 have hone:Ĵ all b t=some true->1<=cls E b.op->∀x∈b.op.operands.toList,∀id∈refs1 (ev t x),lkB (aps V h) id=lkB h id:=fun j h1 x v id hi=>by
  refine Cl fun p U m=>?_;rcases hea p U with⟨h2,o⟩|⟨h2,o⟩
  ·exact hfar1 o x v (by rw[<-h2,m]; exact hi)
  ·have F:=B h1 j;rw[iS,bu] at F;refine sj F.1 k.ha k.hb k.bba k.bab (jb.2 (.inl ⟨h2,h1⟩)) p.1 o ?_;rw[m];refine(iN h1).2 ⟨x,v,?_⟩;rw[N x v];simp only[refs2,bw];exact .inl hi
 have hrefs:Ĵ all b t=some true->1<=cls E b.op->∀x∈b.op.operands.toList,refs2 (aps V h) (ev t x)=refs2 h (ev t x):=fun j h1 x v=>by
  have:∀(l:AS Nat),(∀id∈l,lkB (aps V h) id=lkB h id)->(l.flatMap fun id=>(zJ (lkB (aps V h) id)).flatMap ö)=l.flatMap fun id=>(zJ (lkB h id)).flatMap ö:=by
   intro l
   induction l with
   |nil=>intro _; rfl
   |cons y l ih=>intro hl; simp only[cn]; rw[hl y (by simp),ih fun id hi=>hl id (by simp[hi])]
  simp only[refs2];rw[this _ (hone j h1 x v)]
 have G:Ĵ all b t=some true->1<=cls E b.op->ð E.clone a.op=true->∀x∈b.op.operands.toList,na∉refs2 h (ev t x):=fun j h1 h2=>hfar h1 h2 fun p U c hc1 hc2 hb1 hb2 x v id hi m=>by
  have F:=B h1 j;rw[iS,bu] at F;have hk2:=bR.1 F.2 p U;refine sj hk2 hc1 k.hb hb2 hb1 hc2 id m ((iN h1).2 ⟨x,v,?_⟩);rw[N x v];simp only[refs2,bw];exact .inl hi
 have A:Ĵ all b t=some true->1<=cls E b.op->∀x∈b.op.operands.toList,hZ h (aps V h) (ev t x):=fun j h1 x v id hi=>by
  refine Cl fun p U m=>?_;rcases hea p U with⟨h2,o⟩|⟨h2,o⟩
  ·exact G j h1 o x v (by rw[<-h2,m]; exact hi)
  ·have F:=B h1 j;rw[iS,bu] at F;refine sj F.1 k.ha k.hb k.bba k.bab (jb.2 (.inl ⟨h2,h1⟩)) p.1 o ?_;rw[m];refine(iN h1).2 ⟨x,v,?_⟩;rw[N x v,hrefs j h1 x v];exact hi
 -- what b does
 obtain⟨φb,b0,b1,b2,b3⟩:=xf (t:=t) (t2:=é t a.dst Z) (h:=h) (h2:=aps V h) (call:=call) (fid:=fid) (path:=path) (i:=ib) (nid:=nb) (all:=all) r hpe hb3 (lS _ _) C A;have hfb:nI E all b {t:=é t a.dst Z,h:=aps V h}=nI E all b {t:=t,h:=h}:=zi C A;rw[b3] at q2;obtain⟨⟨vb,eb⟩,q3,q4⟩:=Ē q2;simp only at q4;rw[hfb] at q4;have heb:=b0 _ q3;simp only at heb;have hfo:Ĵ all b t=some true->pZ E {t:=é t a.dst Z,h:=aps V h} b.op=pZ E {t:=t,h:=h} b.op:=fun j=>tY N (A j)
 -- a looks at the same
 have R:∀s∈ő all a,lk (é t b.dst vb) s=lk t s:=fun s hs=>nT (k.ra s hs) _
 have I:qV E a.op b.op=true->∀id∈nI E all a {t:=t,h:=h},id∉nI E all b {t:=t,h:=h}:=fun hcl id hi hj=>by
  unfold nI at hj;simp only at hj
  split at hj
  ·rename_i j
   have h1:1<=cls E b.op:=by rcases jb.1 hcl with h|h<;>omega
   have F:=B h1 j;rw[iS,bu,hfo j] at F;exact sj F.1 k.ha k.hb k.bba k.bab hcl id hi hj
  ·cases hj
 have u:Ĵ all a t=some true->1<=cls E a.op->∀x∈a.op.operands.toList,hZ h (aps eb h) (ev t x):=fun j h1 x v id hi=>by
  have W:id∈nI E all a {t:=t,h:=h}:=by
   unfold nI;simp only[j];exact(iN h1).2 ⟨x,v,hi⟩
  refine Cl fun p U m=>?_;rcases heb p U with⟨h2,o⟩|⟨h2,o⟩
  ·exact Y id W (by rw[<-m,h2]; exact hbd o)
  ·exact I (jb.2 (.inr ⟨h1,h2⟩)) id W (m▸o)
 obtain⟨φa',a0',a1',a2',a3'⟩:=xf (t:=t) (t2:=é t b.dst vb) (h:=h) (h2:=aps eb h) (call:=call) (fid:=fid) (path:=path) (i:=ia) (nid:=na) (all:=all) r hpe k.a3 (lS _ _) R u;have hfa:nI E all a {t:=é t b.dst vb,h:=aps eb h}=nI E all a {t:=t,h:=h}:=zi R u
 have o:jd E call fid path true all ia na a {t:=t,h:=h} (fun S=>K (nI E all a {t:=t,h:=h}) (nI E all b {t:=t,h:=h}) {t:=é S.t b.dst vb,h:=aps eb S.h})=some r:=by rw[a2,q1]; exact q4
 rw[a2'] at o;obtain⟨⟨va',ea'⟩,q5,q6⟩:=Ē o;simp only at q6;have X:=a0' _ q5;simp only at X
 have hcomm:aps eb (aps ea' h)=aps ea' (aps eb h):=JL fun p U q hq T=>by
  rcases X p U with⟨h2,o⟩|⟨h2,o⟩<;>rcases heb q hq with⟨h4,L⟩|⟨h4,L⟩
  ·exact hn o L (by rw[<-h2,<-h4]; exact T)
  ·-- b would write a's new block
   have j:Ĵ all b t=some true:=by
    unfold nI at L;simp only at L
    split at L
    ·assumption
    ·cases L
   have h5':q.1∈pZ E {t:=t,h:=h} b.op:=by
    unfold nI at L;simp only[j] at L;exact L
   obtain⟨x,v,hi⟩:=(iN (by omega)).1 h5';exact G j (by omega) o x v (by rw[<-h2,T]; exact hi)
  ·exact Y p.1 o (by rw[T,h4]; exact hbd L)
  ·exact I (jb.2 (.inl ⟨h2,by omega⟩)) p.1 o (by rw[T]; exact L)
 rw[xM k.dd,hcomm] at q6
 -- the checks
 have chb:(Ĵ all b t==some true&&!chk E all n acc ib (pZ E {t:=t,h:=h} b.op))=false:=by
  cases j:Ĵ all b t==some true with
  |false=>rfl
  |true =>
   have O:Ĵ all b t=some true:=by simpa using j
   rw[hwb,j] at d;simp only[cT,df] at d ⊢;rw[iS,bu,hfo O] at d;exact d.2
 have cha:(Ĵ all a (é t b.dst vb)==some true&&!chk E all n ((ib,nI E all b {t:=t,h:=h})::acc) ia (pZ E {t:=é t b.dst vb,h:=aps eb h} a.op))=false:=by
  rw[š R]
  cases j:Ĵ all a t==some true with
  |false=>rfl
  |true =>
   have O:Ĵ all a t=some true:=by simpa using j
   rw[j] at J;simp only[cT,df] at J ⊢;rw[tY (wa R) (u O),iS,bu];refine⟨G4 ?_,J⟩
   have hfa0:nI E all a {t:=t,h:=h}=pZ E {t:=t,h:=h} a.op:=by simp only[nI,O]
   cases z:Ĵ all b t with
   |some wb=>cases wb with
    |true =>
     rw[hwb,z] at d;simp only[beq_self_eq_true,cT,df] at d;rw[iS,bu,hfo z,hfa0] at d;simp only[nI,z];exact d.1
    |false=>simp only[nI,z]; exact uO k.ha k.hb
   |none=>simp only[nI,z]; exact uO k.ha k.hb
 unfold nw;simp only[chb];rw[b2,q3];simp only[Option.bind_some,cha];rw[a3',q5];simp only[Option.bind_some];rw[hfa];exact q6
abbrev Item:=Nat×Nat×Oper
def ik (clone:Nat->Bool):AS Oper->Nat->Nat->AS Item
 |[],_,_=>[]
 |o::os,i,nid=>(i,nid,o)::ik clone os (i+1) (bif ð clone o.op then nid+1 else nid)
def Im (E:Env ρ) (call:AS Nat->Bool->Nat->AS AV->AS Blk->(AV->AS Blk->AN ρ)->AN ρ) (fid:Nat) (path:AS Nat) (all:AS Oper) (b:AS Nat):AS Item->AS (Nat×AS Nat)->St->(St->AN ρ)->AN ρ
 |[],_,S,K=>K S
 |x::l,acc,S,K=>nw E call fid path all b acc x.1 x.2.1 x.2.2 S fun F S=>Im E call fid path all b l ((x.1,F)::acc) S K
def EM {E:Env ρ} {call:AS Nat->Bool->Nat->AS AV->AS Blk->(AV->AS Blk->AN ρ)->AN ρ} {fid:Nat} {path:AS Nat} {all:AS Oper} {b:AS Nat}:∀(os:AS Oper) (i nid:Nat) (acc:AS (Nat×AS Nat)) (S:St) (K:St->AN ρ),
 L5 E call fid path all b os i nid acc S K=Im E call fid path all b (ik E.clone os i nid) acc S K
 |[],_,_,_,_,_=>rfl
 |o::os,i,nid,acc,S,K=>by
  rw[L4];simp only[ik,Im];congr 1;funext F S';exact EM os _ _ _ S' K
def PZ {E:Env ρ} {all:AS Oper} {c:AS Nat} {acc b:AS (Nat×AS Nat)} {i:Nat} {F:AS Nat} (h:∀p,p∈acc↔p∈b):chk E all c acc i F=chk E all c b i F:=by
 rw[dj];simp only[chk,bR]
 exact forall_congr' fun p=>by rw[h p]
def Eo {E:Env ρ} {call:AS Nat->Bool->Nat->AS AV->AS Blk->(AV->AS Blk->AN ρ)->AN ρ} {fid:Nat} {path:AS Nat} {all:AS Oper} {c:AS Nat} {K:St->AN ρ}:∀(l:AS Item) {acc b:AS (Nat×AS Nat)} (S:St),(∀p,p∈acc↔p∈b) ->
 Im E call fid path all c l acc S K=Im E call fid path all c l b S K
 |[],_,_,_,_=>rfl
 |x::l,acc,b,S,h=>by
  simp only[Im,nw];rw[PZ h]
  split
  ·rfl
  ·congr 1;funext S'
   exact Eo l S' fun p=>by simp[h p]
def QQ {E:Env ρ} {call:AS Nat->Bool->Nat->AS AV->AS Blk->(AV->AS Blk->AN ρ)->AN ρ} {fid:Nat} {path:AS Nat} {all:AS Oper} {j:AS Nat} {b:Item} {rest:AS Item} {K:St->AN ρ} {r:ρ} {h0:AS Blk} {t0:AS AV}
 (v:Ou E call) :
 ∀(as:AS Item) (acc:AS (Nat×AS Nat)) (t:AS AV) (h:AS Blk),(∀a∈as,Qq E all j a.1 b.1 a.2.2 b.2.2)->(∀s∈ő all b.2.2,lk t s=lk t0 s)->(ð E.clone b.2.2.op=true->lkB h b.2.1=.dead) ->
  (∀a∈as,ð E.clone a.2.2.op=true->ð E.clone b.2.2.op=true->a.2.1≠b.2.1)->(∀a∈as,ð E.clone a.2.2.op=true->∀x∈b.2.2.op.operands.toList,a.2.1∉refs2 h0 (ev t0 x)) ->
  (1<=cls E b.2.2.op->∀x∈b.2.2.op.operands.toList,∀id∈refs1 (ev t0 x),lkB h id=lkB h0 id\/∃p∈acc,(∃c,all[p.1]?=some c/\qV E c.op b.2.2.op=true/\(j.getD b.1 0).testBit p.1=false/\(j.getD p.1 0).testBit b.1=false)/\id∈p.2) ->
  Im E call fid path all j (as++b::rest) acc {t:=t,h:=h} K=some r->Im E call fid path all j (b::(as++rest)) acc {t:=t,h:=h} K=some r
 |[],acc,t,h,_,_,_,_,_,_,e=>e
 |a::as,acc,t,h,L,Z,A,X,hfar,hinv,e=>by
  have C:=L a (by simp);have n:∀x∈b.2.2.op.operands.toList,ev t x=ev t0 x:=wa Z
  have G:ð E.clone a.2.2.op=true->∀x∈b.2.2.op.operands.toList,a.2.1∉refs1 (ev t x):=fun k x m hi=>hfar a (by simp) k x m (by
   rw[n x m] at hi;simp only[refs2,bw]
   exact .inl hi)
  simp only[cE,Im] at e ⊢
  have fin:=swap (K:=fun R O S=>Im E call fid path all j (as++rest) ((b.1,O)::(a.1,R)::acc) S K) (r:=r) (t:=t) (h:=h) (acc:=acc) (ia:=a.1) (na:=a.2.1) (ib:=b.1) (nb:=b.2.1) (a:=a.2.2) (b:=b.2.2) (fid:=fid) (path:=path) v C A (X a (by simp)) G
   (fun h1 k V x m=>by
    rw[n x m];have q:∀id∈refs1 (ev t0 x),lkB h id=lkB h0 id:=fun id hi=>(hinv h1 x m id hi).resolve_right fun⟨p,o,⟨c,c1,c2,c3,c4⟩,d⟩=>V p o c c1 c2 c3 c4 x m id (by rw[n x m]; exact hi) d
    have:refs2 h (ev t0 x)=refs2 h0 (ev t0 x):=by
     have U:∀(l:AS Nat),(∀id∈l,lkB h id=lkB h0 id)->(l.flatMap fun id=>(zJ (lkB h id)).flatMap ö)=l.flatMap fun id=>(zJ (lkB h0 id)).flatMap ö:=by
      intro l
      induction l with
      |nil=>intro _; rfl
      |cons y l ih=>intro hl; simp only[cn]; rw[hl y (by simp),ih fun id hi=>hl id (by simp[hi])]
     simp only[refs2];rw[U _ q]
    rw[this]
    exact hfar a (by simp) k x m) ?_
  ·have u:∀(R O:AS Nat) (S:St),Im E call fid path all j (as++rest) ((b.1,O)::(a.1,R)::acc) S K=Im E call fid path all j (as++rest) ((a.1,R)::(b.1,O)::acc) S K:=fun R O S=>Eo _ S fun p=>by
    simp only[bC]
    constructor<;>rintro(h|h|h)<;>simp[h]
   simp only[u] at fin;exact fin
  ·-- behind a
   obtain⟨φa,a0,a1,a2,_⟩:=xf (t:=t) (t2:=t) (h:=h) (h2:=h) (call:=call) (fid:=fid) (path:=path) (i:=a.1) (nid:=a.2.1) (all:=all) r v C.a3 rfl (fun _ _=>rfl) (fun _ _ _ _ _ _=>rfl);unfold nw at e ⊢
   split at e<;>try (cases e; done)
   rename_i I;simp only[I];rw[a2] at e ⊢;obtain⟨⟨va,ea⟩,T,Y⟩:=Ē e;rw[T];simp only[cz];have N:=a1 _ T;have z:=a0 _ T;simp only at z Y;refine QQ v as _ _ _ (fun c J=>L c (by simp[J])) (fun s hs=>(nT (C.rb s hs) _).trans (Z s hs)) (fun k=>?_) (fun c J=>X c (by simp[J])) (fun c J=>hfar c (by simp[J])) (fun h1 x m id hi=>?_) Y
   ·refine(Cl fun p o d=>?_).trans (A k);rcases z p o with⟨h2,B⟩|⟨h2,B⟩
    ·exact X a (by simp) B k (h2.symm.trans d)
    ·exact N p.1 B (by rw[d]; exact A k)
   ·by_cases F:∃p∈ea,p.1=id
    ·obtain⟨p,o,d⟩:=F;rcases z p o with⟨h2,B⟩|⟨h2,B⟩
     ·exfalso;exact G B x m (by rw[n x m,<-h2,d]; exact hi)
     ·exact .inr ⟨(a.1,_),List.mem_cons_self ..,⟨a.2.2,C.ha,jb.2 (.inl ⟨h2,h1⟩),C.bab,C.bba⟩,d▸B⟩
    ·have W:lkB (aps ea h) id=lkB h id:=Cl fun p o d=>F ⟨p,o,d⟩;rw[W];rcases hinv h1 x m id hi with h2|⟨p,o,h2⟩
     ·exact .inl h2
     ·exact .inr ⟨p,by simp[o],h2⟩
section
variable {ν:Nat->Value} {w:World}
def VR0.refs {a:AV} {v:Value} (c:VR0 ν h w a v):∀id∈ö a,lkB h id≠.dead:=by
 intro id hi hd
 cases a<;>simp only[ö,bE,cR] at hi
 ·subst hi; obtain⟨_,t,g',fz,xs,b,_⟩:=c; rw[hd] at b; cases b
 ·subst hi; obtain⟨_,t,g',fz,xs,b,_⟩:=c; rw[hd] at b; cases b
 ·subst hi; obtain⟨_,t,g',fz,b,_⟩:=c; rw[hd] at b; cases b
 ·subst hi; obtain⟨_,_,b,_⟩:=c; rw[hd] at b; cases b
 ·subst hi; obtain⟨_,t,g',fz,xs,b,_⟩:=c; rw[hd] at b; cases b
 ·subst hi; obtain⟨_,k,g',xss,b,_⟩:=c; rw[hd] at b; cases b
 ·subst hi; obtain⟨_,k,g',xss,b,_⟩:=c; rw[hd] at b; cases b
 ·subst hi; obtain⟨_,k,g',xss,b,_⟩:=c; rw[hd] at b; cases b
 ·subst hi; obtain⟨_,k,g',xss,b,_⟩:=c; rw[hd] at b; cases b
 ·subst hi; obtain⟨_,es,b,_⟩:=c; rw[hd] at b; cases b
def VR1.refs {a:AV} {v:Value} (b:VR1 ν h w a v):∀id∈ö a,lkB h id≠.dead:=by
 cases c:a.isFn with
 |true=>cases a<;>first|(cases c; done)|(intro id hi; cases hi)
 |false=>rw[nu c] at b; exact b.refs
def ä.left_mem {α β:Type} {R:α->β->Prop}:∀{l:AS α} {m:AS β},ä R l m->∀a∈l,∃b∈m,R a b
 |[],_,_,a,ha=>by cases ha
 |x::l,y::m,h,a,ha=>by
  rcases bC.1 ha with rfl|ha
  ·exact⟨y,by simp,h.1⟩
  ·obtain⟨b,hb,c⟩:=ä.left_mem h.2 a ha;exact⟨b,by simp[hb],c⟩
 |_::_,[],h,_,_=>h.elim
def VR.refs1 {a:AV} {v:Value} (j:VR ν h w a v):∀id∈Go.Am.refs1 a,lkB h id≠.dead:=by
 cases d:a.isAgg with
 |true =>
  cases a<;>try cases d
  obtain⟨us,_,h2⟩:=j;intro id hi;simp only[Go.Am.refs1,bP] at hi;obtain⟨c,i,hi⟩:=hi;obtain⟨u,_,b⟩:=h2.left_mem c i;exact b.1.refs id hi
 |false =>
  cases e:a.isTup with
  |true=>cases a<;>first|(cases e; done)|(intro id hi; cases hi)
  |false =>
   have h1:=j.one d e;have h2:=h1.refs
   cases a with
   |fn f fa fb =>
    obtain⟨fs,cs,_,l,k⟩:=h1
    have one:∀c u,VR0 ν h w c u->∀id∈LJ c,lkB h id≠.dead:=fun c u b id hi=>by
     cases c with
     |agg=>exact b.elim
     |_=>exact b.refs id hi
    intro id hi;simp only[Go.Am.refs1,bw,bP] at hi;rcases hi with⟨c,i,hi⟩|⟨c,i,hi⟩
    ·obtain⟨u,_,b⟩:=l.left_mem c i;exact one c u b id hi
    ·obtain⟨u,_,b⟩:=k.left_mem c i;exact one c u b id hi
   |agg=>cases d
   |_=>exact h2
def VR.refs2 (H:HR ν h w) {a:AV} {v:Value} (l:VR ν h w a v):∀id∈Go.Am.refs2 h a,lkB h id≠.dead:=by
 intro id hi;simp only[Go.Am.refs2,bw,bP] at hi;rcases hi with hi|⟨j,q,c,d,hi⟩
 ·exact l.refs1 id hi
 ·have k:=H.blk j
  cases i:lkB h j with
  |cells cs =>
   rw[i] at k d;obtain⟨b,o,e,_,_,n⟩:=k;obtain⟨u,_,m⟩:=n.left_mem c d;exact m.1.refs id hi
  |_=>rw[i] at d; cases d
end
end
end Go.Am
end

noncomputable section
namespace Go.Am
variable [Globs] [É]
section
variable {ρ:Type} {ν:Nat->Value} {h:AS Blk} {w:World}
def N4 (acc:AS Nat) (o:Oper):Nat:=o.after.toList.foldl (fun s e=>if Region.binds .any e then s ||| 2 ^ e.on ||| acc.getD e.on 0 else s) 0
def vL:∀(os:AS Oper) (acc:AS Nat),∃l,ĸ os acc=acc++l/\∀(k:Nat) (o:Oper),os[k]?=some o->(acc++l).getD (acc.length+k) 0=N4 ((acc++l).take (acc.length+k)) o
 |[],acc=>⟨[],by simp[ĸ],by simp⟩
 |o::os,acc=>by
  obtain⟨l,h1,h2⟩:=vL os (acc++[N4 acc o]);refine⟨N4 acc o::l,?_,?_⟩
  ·simp only[ĸ];show ĸ os (acc++[N4 acc o])=_;rw[h1]; simp
  ·intro k o' b
   cases k with
   |zero =>
    simp only[cQ,Option.some.injEq] at b;subst b;simp[List.getD]
   |succ k =>
    have:=h2 k o' (by simpa using b);simp only[bM,List.singleton_append,bz,cj] at this;rw[show acc.length+(k+1)=acc.length+1+k by omega];exact this
def N3 {os:AS Oper} {k:Nat} {o:Oper} (b:os[k]?=some o):(ĸ os []).getD k 0=N4 ((ĸ os []).take k) o:=by
 obtain⟨l,h1,h2⟩:=vL os [];rw[h1];simpa using h2 k o b
def Dp {acc:AS Nat} {i:Nat}:∀(es:AS Edge) (s:Nat),(es.foldl (fun s e=>if Region.binds .any e then s ||| 2 ^ e.on ||| acc.getD e.on 0 else s) s).testBit i=true ->
 s.testBit i=true\/∃e∈es,Region.binds .any e=true/\(i=e.on\/(acc.getD e.on 0).testBit i=true)
 |[],s,h=>.inl h
 |e::es,s,h=>by
  simp only[ej] at h;rcases Dp es _ h with h1|⟨c,b,h1⟩
  ·split at h1
   ·rename_i hb;simp only[Nat.testBit_or,Bool.or_eq_true,Nat.testBit_two_pow,decide_eq_true_eq] at h1;rcases h1 with(h1|h1)|h1
    ·exact .inl h1
    ·exact .inr ⟨e,by simp,hb,.inl h1.symm⟩
    ·exact .inr ⟨e,by simp,hb,.inr h1⟩
   ·exact .inl h1
  ·exact .inr ⟨c,by simp[b],h1⟩
def oR {E:Env ρ} {all:AS Oper} {e:AS Nat}:∀{j:AS Oper} {c:Nat},pL E all e j c=true->∀(k:Nat) (b:Oper),j[k]?=some b->∀(i:Nat) (a:Oper),i<c+k->all[i]?=some a->PW E all a b=false\/(e.getD (c+k) 0).testBit i=true
 |[],_,_,k,b,d,_,_,_,_=>by simp at d
 |x::j,c,h,k,b,d,i,a,hi,ha=>by
  simp only[pL,bu,bR,List.mem_range] at h
  cases k with
  |zero =>
   simp only[cQ,Option.some.injEq] at d;subst d;have:=h.1 i (by omega);rw[ha] at this;simp only[Bool.or_eq_true,cg] at this;simpa using this
  |succ k =>
   have:=oR h.2 k b (by simpa using d) i a (by omega) ha
   rwa [show c+1+k=c+(k+1) by omega] at this
def m8:∀{os:AS Oper} {j:Nat},Gg os j=true->∀(k:Nat) (o:Oper),os[k]?=some o->∀e∈o.after,Region.binds .any e=true->e.on<j+k
 |[],_,_,k,o,b,_,_,_=>by simp at b
 |x::os,j,h,k,o,b,e,c,hb=>by
  simp only[Gg,bu,bR] at h
  cases k with
  |zero =>
   simp only[cQ,Option.some.injEq] at b;subst b;have:=h.1 e (by simpa using c);simp only[hb,cO,Bool.false_or,decide_eq_true_eq] at this;omega
  |succ k =>
   have:=m8 h.2 k o (by simpa using b) e c hb;omega
def bef_lt {os:AS Oper} (hb:Gg os 0=true):∀(j i:Nat),((ĸ os []).getD j 0).testBit i=true->i<j:=by
 intro j
 induction j using Nat.strongRecOn with
 |ind j e =>
  intro i hi
  cases d:os[j]? with
  |none =>
   obtain⟨l,h1,_⟩:=vL os []
   have c:∀(os:AS Oper) (acc:AS Nat),(ĸ os acc).length=acc.length+os.length:=by
    intro os
    induction os with
    |nil=>intro acc; simp[ĸ]
    |cons o os e=>intro acc; simp only[ĸ]; rw[e]; simp; omega
   have:(ĸ os [])[j]?=none:=by
    rw[List.getElem?_eq_none_iff] at d ⊢;rw[c]; simpa using d
   simp[List.getD,this] at hi
  |some o =>
   rw[N3 d] at hi;rcases Dp _ _ hi with m|⟨ed,h1,h2,k⟩
   ·simp at m
   ·have b:=m8 hb j o d ed (by simpa using h1) h2;rw[bX] at b;rcases k with rfl|k
    ·exact b
    ·have:((ĸ os []).getD ed.on 0).testBit i=true:=by
      rw[<-k];congr 1;simp only[List.getD,cr];rw[if_pos (by omega)]
     exact Nat.lt_trans (e ed.on b i this) b
def ju {clone:Nat->Bool}:∀{os:AS Oper} {i nid:Nat} {x:Item},x∈ik clone os i nid->∃k,os[k]?=some x.2.2/\x.1=i+k/\nid<=x.2.1/\(ð clone x.2.2.op=true->x.2.1<nid+œ clone os)
 |[],_,_,_,c=>by cases c
 |o::os,i,nid,x,c=>by
  simp only[ik,bC] at c;rcases c with rfl|c
  ·exact⟨0,by simp,rfl,bt _,fun h=>by rw[gM]; simp only at h; rw[h]; simp⟩
  ·obtain⟨k,h1,h2,d,e⟩:=ju c;refine⟨k+1,by simpa using h1,by omega,?_,fun h=>?_⟩
   ·cases b:ð clone o.op<;>rw[b] at d<;>simp at d<;>omega
   ·have:=e h;rw[gM]
    cases b:ð clone o.op<;>rw[b] at this<;>simp at this ⊢<;>omega
def tO {clone:Nat->Bool}:∀{os:AS Oper} {i nid k:Nat} {o:Oper},os[k]?=some o->∃n,(i+k,n,o)∈ik clone os i nid
 |[],_,_,k,_,h=>by simp at h
 |x::os,i,nid,0,o,h=>by
  simp only[cQ,Option.some.injEq] at h;subst h;exact⟨nid,by simp[ik]⟩
 |x::os,i,nid,k+1,o,h=>by
  obtain⟨n,b⟩:=tO (clone:=clone) (i:=i+1) (nid:=bif ð clone x.op then nid+1 else nid) (os:=os) (k:=k) (o:=o) (by simpa using h);exact⟨n,by simp only[ik,bC]; right; rwa [show i+(k+1)=i+1+k by omega]⟩
def vm {clone:Nat->Bool}:∀{os:AS Oper} {i nid:Nat},(ik clone os i nid).Pairwise fun x y=>x.1<y.1/\(ð clone x.2.2.op=true->x.2.1<y.2.1)
 |[],_,_=>List.Pairwise.nil
 |o::os,i,nid=>by
  refine List.Pairwise.cons (fun y d=>?_) vm;obtain⟨k,_,h2,c,_⟩:=ju d;refine⟨by simp only; omega,fun b=>?_⟩;simp only at b;rw[b] at c;simp at c ⊢;omega
def KM {l:AS Item} {p e:Item->Bool} {b:Item} (m:l.Pairwise fun x y=>x.1<y.1) (hb:b∈l) (k:p b=true) (d:∀x∈l,e x=(p x&&x.1 != b.1)) :
 ∃as rest,l.filter p=as++b::rest/\l.filter e=as++rest/\∀a∈as,a∈l/\p a=true/\a.1<b.1:=by
 obtain⟨j,i,rfl⟩:=List.append_of_mem hb;rw[List.pairwise_append] at m;obtain⟨_,h2,o⟩:=m;have h1:∀x∈j,x.1<b.1:=fun x c=>o x c b (by simp);have n:∀x∈i,b.1<x.1:=fun x c=>(b7.1 h2).1 x c;refine⟨j.filter p,i.filter p,by simp[k],?_,fun a ha=>?_⟩
 ·have u:j.filter e=j.filter p:=List.filter_congr fun x c=>by
   rw[d x (by simp[c])]
   have:(x.1 != b.1)=true:=by have:=h1 x c; simp; omega
   rw[this]; simp
  have s:i.filter e=i.filter p:=List.filter_congr fun x c=>by
   rw[d x (by simp[c])]
   have:(x.1 != b.1)=true:=by have:=n x c; simp; omega
   rw[this]; simp
  have q:e b=false:=by rw[d b (by simp)]; simp
  simp[u,s,q]
 ·rw[eh] at ha;exact⟨by simp[ha.1],ha.2,h1 a ha.1⟩
def Iy {α:Type} {R:α->α->Prop}:∀{l:AS α},l.Pairwise R->∀x∈l,∀y∈l,x=y\/R x y\/R y x
 |[],_,_,c,_,_=>by cases c
 |z::l,h,x,c,y,b=>by
  rw[b7] at h;rcases bC.1 c with c|c
  ·rcases bC.1 b with b|b
   ·exact .inl (c.trans b.symm)
   ·rw[c]; exact .inr (.inl (h.1 y b))
  ·rcases bC.1 b with b|b
   ·rw[b]; exact .inr (.inr (h.1 x c))
   ·exact Iy h.2 x c y b
def PQ {E:Env ρ} {call:AS Nat->Bool->Nat->AS AV->AS Blk->(AV->AS Blk->AN ρ)->AN ρ} {L:Nat} (hE:ψ E L call) {fid:Nat} {path:AS Nat} {d:Array Oper} (hp:path.length+1=L) (hg:ky d.toList d.toList=true)
 (hd:Nw E d.toList=true) {base:Nat} {K:St->AN ρ} {r:ρ} {Q:Exit->Act->World->Prop} {m:Nat} (hmb:m<=base) :
 ∀(C:Nat) (c:Array Bool) (acc:AS (Nat×AS Nat)) (S:St) (a:Act) (ν:Nat->Value) (w:World),c.size=d.size ->
  (∀j i,c.getD j false=true->((ĸ d.toList []).getD j 0).testBit i=true->c.getD i false=true) ->
  ((ik E.clone d.toList 0 base).filter fun x=>!c.getD x.1 true).length=C->Sim ν S a w ->
  (∀x∈(ik E.clone d.toList 0 base).filter fun x=>!c.getD x.1 true,ð E.clone x.2.2.op=true->x.2.1<S.h.length/\lkB S.h x.2.1=.dead)->m<=S.h.length ->
  Im E call fid path d.toList (ĸ d.toList []) ((ik E.clone d.toList 0 base).filter fun x=>!c.getD x.1 true) acc S K=some r ->
  (∀ν' X a' w',Sim ν' X a' w'->Ev m ν S.h w ν' X.h w'->m<=X.h.length->Dd m S.h X.h->K X=some r->Q .normal a' w') ->
  wpAnyIn fen 0 E.P .any d Q C c a w:=by
 simp only[Nw,bu] at hd;obtain⟨G,hdr⟩:=hd
 have B:∀{c:Array Bool} {j:Nat},c.size=d.size->j<d.size->c.getD j true=c.getD j false:=fun {c j} hs hj=>by
  have:j<c.size:=by omega
  simp[this]
 have hpw:=(vm (clone:=E.clone) (os:=d.toList) (i:=0) (nid:=base)).imp fun {x y} h=>h.1;intro C
 induction C with
 |zero =>
  intro c acc S a ν w R hcl A H z hm e hQ;have Y:=bL.1 A;refine⟨?_,?_⟩
  ·rw[List.eq_nil_iff_forall_not_mem];intro j hj;obtain⟨h0,o,ho,_⟩:=mem_ready.1 hj;obtain⟨n,hn⟩:=tO (clone:=E.clone) (i:=0) (nid:=base) (os:=d.toList) (k:=j) (o:=o) (by simpa using ho);have:(0+j,n,o)∈(ik E.clone d.toList 0 base).filter fun x=>!c.getD x.1 true:=eh.2 ⟨hn,by simp only[bX]; rw[h0]; rfl⟩;rw[Y] at this;cases this
  ·rw[Y] at e;exact hQ ν S a w H (Ev.refl _ _ _ _) hm (Dd.refl _ _) e
 |succ C ih =>
  intro c acc S a ν w R hcl A H z hm e hQ;refine⟨fun hr=>?_,fun j hj=>?_⟩
  ·-- the first of those that are left is ready
   exfalso
   cases q:(ik E.clone d.toList 0 base).filter fun x=>!c.getD x.1 true with
   |nil=>rw[q] at A; simp at A
   |cons x l =>
    have s:x∈(ik E.clone d.toList 0 base).filter fun x=>!c.getD x.1 true:=by rw[q]; simp
    rw[eh] at s;obtain⟨k,h1,h2,_⟩:=ju s.1
    have hk:x.1=k:=by omega
    have I:x.1∈Region.ready .any d c:=mem_ready.2 ⟨by simpa using s.2,x.2.2,by rw[hk]; simpa using h1,fun ed hed hb=>by
     have hlt:=m8 G k x.2.2 h1 ed hed hb
     have hks:k<d.size:=by
      have:=(bB.1 h1).1;simpa using this
     cases hl:c.getD ed.on false with
     |true=>rfl
     |false =>
      exfalso;obtain⟨o',ho'⟩:∃o',d.toList[ed.on]?=some o':=⟨_,br (by simp; omega)⟩;obtain⟨n,hn⟩:=tO (clone:=E.clone) (i:=0) (nid:=base) ho'
      have V:(0+ed.on,n,o')∈x::l:=by
       rw[<-q];refine eh.2 ⟨hn,?_⟩;simp only[bX];rw[B R (by omega),hl];rfl
      have hpl:(x::l).Pairwise fun x y=>x.1<y.1:=by rw[<-q]; exact hpw.filter _
      rcases bC.1 V with W|W
      ·rw[<-W] at hk; simp at hk; omega
      ·have:=(b7.1 hpl).1 _ W
       simp only at this; omega⟩
    rw[hr] at I;cases I
  ·obtain⟨h0,o,ho,hed⟩:=mem_ready.1 hj;have hjs:j<d.size:=(cS.1 ho).1
   have O:d.toList[j]?=some o:=by simpa using ho
   obtain⟨n,hn⟩:=tO (clone:=E.clone) (i:=0) (nid:=base) O;rw[bX] at hn
   have hpp:∀x∈ik E.clone d.toList 0 base,(fun x:Item=>!(c.setIfInBounds j true).getD x.1 true) x=((fun x:Item=>!c.getD x.1 true) x&&x.1 != j):=fun x s=>by
    by_cases N:x.1=j
    ·simp only[N]
     have:j<c.size:=by omega
     simp[this]
    ·have h1:(c.setIfInBounds j true).getD x.1 true=c.getD x.1 true:=getD_set_ne true (Ne.symm N)
     have h2:(x.1 != j)=true:=by simpa using N
     simp only[h1,h2,Bool.and_true]
   obtain⟨as,rest,f1,f2,f3⟩:=KM (b:=(j,n,o)) hpw hn (by simp only[h0]; rfl) hpp
   have hbit:∀i,((ĸ d.toList []).getD j 0).testBit i=true->c.getD i false=true:=fun i hi=>by
    rw[N3 O] at hi;rcases Dp _ _ hi with hz|⟨ed,h1,h2,W⟩
    ·simp at hz
    ·have hl:=hed ed (by simpa using h1) h2;rcases W with rfl|W
     ·exact hl
     ·refine hcl ed.on i hl ?_;have hlt:=m8 G j o O ed (by simpa using h1) h2;rw[<-W];congr 1;simp only[List.getD,cr];rw[if_pos (by omega)]
   have T:=vm (clone:=E.clone) (os:=d.toList) (i:=0) (nid:=base)
   have F:((j,n,o):Item)∈(ik E.clone d.toList 0 base).filter fun x=>!c.getD x.1 true:=by rw[f1]; simp
   have hne:∀x∈(ik E.clone d.toList 0 base).filter (fun x=>!c.getD x.1 true),x≠(j,n,o)->ð E.clone x.2.2.op=true->ð E.clone o.op=true->x.2.1≠n:=fun x s N h1 h2=>by
    have hsub:((ik E.clone d.toList 0 base).filter fun x=>!c.getD x.1 true).Pairwise fun x y=>x.1<y.1/\(ð E.clone x.2.2.op=true->x.2.1<y.2.1):=T.filter _;rcases Iy hsub x s _ F with he|hr|hr
    ·exact absurd he N
    ·exact dz (hr.2 h1)
    ·exact(dz (hr.2 h2)).symm
   rw[f1] at e
   have e':=QQ (b:=(j,n,o)) (h0:=S.h) (t0:=S.t) (K:=K) (r:=r) hE.pureEq as acc S.t S.h (fun x s=>by
    obtain⟨g1,g2,g3⟩:=f3 x s;obtain⟨k,h1,h2,_⟩:=ju g1
    have hk:x.1=k:=by omega
    have hkj:k<j:=by simp only at g3; omega
    have hnb:((ĸ d.toList []).getD j 0).testBit k=false:=by
     cases hb:((ĸ d.toList []).getD j 0).testBit k with
     |false=>rfl
     |true =>
      exfalso;have hl:=hbit k hb;simp only[cg] at g2;rw[B R (by omega),hk,hl] at g2;cases g2
    have Z:((ĸ d.toList []).getD k 0).testBit j=false:=by
     cases hb:((ĸ d.toList []).getD k 0).testBit j with
     |false=>rfl
     |true=>have:=bef_lt G k j hb; omega
    have:=oR hdr j o O k x.2.2 (by omega) h1;rw[bX,hnb] at this;rw[<-hk] at h1 hnb Z
    exact HG (this.resolve_right (by simp)) h1 O hnb Z)
    (fun _ _=>rfl)
    (fun J=>(z _ F J).2)
    (fun x s h1 h2=>hne x (by rw[f1]; simp[s]) (fun he=>by
     have:=(f3 x s).2.2;rw[he] at this
     simp at this) h1 h2)
    (fun x s h1 y hy hmem=>VR.refs2 H.heap (ù H y) _ hmem ((z x (by rw[f1]; simp[s]) h1).2)) (fun _ _ _ _ _=>.inl rfl) e
   simp only[Im,nw] at e'
   split at e'<;>try (cases e'; done)
   refine xI hE.call hE.plain hE.clone hE.yld hg hp ho H (fun J=>z _ F J) e' fun ν' w' u v X g1 g2 g3 g4 g5 g6 g7=>?_;have q:((ik E.clone d.toList 0 base).filter fun x=>!(c.setIfInBounds j true).getD x.1 true)=as++rest:=f2
   have V:∀x∈as++rest,x∈(ik E.clone d.toList 0 base).filter fun x=>!c.getD x.1 true:=fun x s=>by
    rw[f1]
    rcases bw.1 s with s|s<;>simp[s]
   have hnj:∀x∈as++rest,x≠(j,n,o):=fun x s he=>by
    rw[<-q,eh] at s;rw[he] at s
    have hlt:j<c.size:=by omega
    simp[hlt] at s
   have hm':m<=X.h.length:=bG hm g4;refine ih (c.setIfInBounds j true) ((j,nI E d.toList o S)::acc) {t:=é X.t o.dst v,h:=X.h} _ ν' w' (by simpa using R) (fun j' i h1 h2=>?_) ?_ ?_ (fun x s J=>?_) hm' ?_ fun ν'' S'' a'' w'' q1 q2 q3 q4 q5=>hQ ν'' S'' a'' w'' q1 ((g3.mono hm).trans q2 (bt _)) q3 (fun i hi hdi=>q4 i hi ?_) q5
   ·by_cases hjj:j=j'
    ·subst hjj;exact getD_set_true (hbit i h2)
    ·rw[getD_set_ne false hjj] at h1;exact getD_set_true (hcl j' i h1 h2)
   ·rw[q];rw[f1] at A;simp only[bz,bJ] at A ⊢;omega
   ·rw[g6];exact H.put g3 g2 o.dst g1
   ·rw[q] at s;obtain⟨h1,h2⟩:=z x (V x s) J;refine⟨by simp only; omega,g5 _ h1 ?_ h2⟩
    by_cases U:ð E.clone o.op=true
    ·exact .inl (hne x (V x s) (hnj x s) J U)
    ·exact .inr (by simpa using U)
   ·rw[q];exact g7
   ·refine g5 i (by omega) ?_ hdi
    by_cases U:ð E.clone o.op=true
    ·left;obtain⟨k,_,_,W,_⟩:=ju hn;simp only at W;show i≠n;omega
    ·exact .inr (by simpa using U)
def gC {E:Env ρ} (hmix:E.P.follows .mixedOrders=true) (L:Nat) (call:AS Nat->Bool->Nat->AS AV->AS Blk->(AV->AS Blk->AN ρ)->AN ρ) (C:ψ E L call):jD E L call:=by
 intro fid rid path b S a K r m ν w z e H A;unfold xP at e
 split at e<;>try (cases e; done)
 rename_i s;simp only[cT,Bool.or_eq_false_iff,df] at s;apply wpIn_region_any hmix;have c:=fun id=>De S.h (œ E.clone b.toList) id;have U:Sim ν {t:=S.t,h:=S.h++List.replicate (œ E.clone b.toList) .dead} a {w with drawn:=w.drawn+1}:=H.same c rfl rfl rfl rfl;have v:Ev m ν S.h w ν (S.h++List.replicate (œ E.clone b.toList) .dead) {w with drawn:=w.drawn+1}:=Ev.same (w:=w) (w':={w with drawn:=w.drawn+1}) c rfl rfl rfl rfl m
 have d:((ik E.clone b.toList 0 S.h.length).filter fun x=>!(Array.replicate b.size false).getD x.1 true)=ik E.clone b.toList 0 S.h.length:=by
  rw[List.filter_eq_self];intro x n;obtain⟨k,h1,h2,_⟩:=ju n
  have q:k<b.size:=by
   have:=(bB.1 h1).1;simpa using this
  have:x.1=k:=by omega
  simp[this,q]
 have l:∀(os:AS Oper) (i nid:Nat),(ik E.clone os i nid).length=os.length:=by
  intro os
  induction os with
  |nil=>intros; rfl
  |cons o os y=>intro i nid; simp[ik,y]
 refine PQ (fid:=fid) (base:=S.h.length) (K:=K .normal) (r:=r) C z s.2 s.1 A b.size _ [] {t:=S.t,h:=S.h++List.replicate (œ E.clone b.toList) .dead} a ν _ (by simp) (fun j i h1 _=>?_) ?_ U (fun x n u=>?_) ?_ ?_ fun ν' T V w' R O N J I=>⟨ν',T,R,v.trans O (bt _),N,fun j B hd=>J j B (by simp only[c]; exact hd),I⟩
 ·exfalso;rcases cd j b.size with h|h
  ·simp[h] at h1
  ·simp[h] at h1
 ·rw[d,l]; simp
 ·rw[d] at n;obtain⟨k,_,_,G,F⟩:=ju n;have:=F u;refine⟨by simp; omega,?_⟩;simp only[c];exact wq _ _ G
 ·simp; omega
 ·rw[d,<-EM];exact e
end
end Go.Am
end

noncomputable section
namespace Go.Am
variable [Globs]
structure IFun where
 clo:Nat
 ct:Ty
 et:Ty
 F:Val ct->AN (AS (Val et))
def θ (it:IFun) (m:Val it.ct):AS Blk:=[.acc it.et [],.cells (flat it.ct m)]
def I7:AS AV:=[.yld,.box 1 0]
structure Gp (P:Program) (it:IFun):Prop where
 agg:it.et.isAgg=false
 ok:∀(g:É) (_:it.et=g.T) (m:Val it.ct) (xs:AS (Val it.et)),it.F m=some xs->@YldP _ g P ⟨it.et,xs,false⟩->∀(ν:Nat->Value) (w:World) (vals:AS Value),g.B<=w.heap.size->@HR _ g ν (θ it m) w->ä (@VR _ g ν (θ it m) w) I7 vals ->
  (∃fn c,P.funcs[it.clo]?=some fn/\fn.body=some c)/\CallsIn Fence.wide 0 P it.clo vals.toArray w fun e w'=>∃ν' h' u,e=.returned u/\@HR _ g ν' h' w'/\Ev 2 ν (θ it m) w ν' h' w'/\lkB h' 0=.acc it.et xs/\∃cs,lkB h' 1=.cells cs/\Ï it.ct cs=some m
def Gp.mono {P:Program} {clo:Nat} {ct et:Ty} {F b:Val ct->AN (AS (Val et))} (h:Gp P ⟨clo,ct,et,F⟩) (c:∀m xs,b m=some xs->F m=some xs):Gp P ⟨clo,ct,et,b⟩ :=
 ⟨h.agg,fun g d m xs e=>h.ok g d m xs (c m xs e)⟩
def nr0 (id:Nat):AV->Bool
 |.box j _=>!Nat.beq j id
 |_=>true
def nr1 (id:Nat):AV->Bool
 |.fn _ a b=>a.all (nr0 id)&&b.all (nr0 id)
 |v=>nr0 id v
def nr2 (id:Nat):AV->Bool
 |.agg cs=>cs.all (nr1 id)
 |v=>nr1 id v
def nr3 (id:Nat):AV->Bool
 |.tup cs=>cs.all (nr2 id)
 |v=>nr2 id v
def nrB (id:Nat):Blk->Bool
 |.cells cs=>cs.all (nr1 id)
 |.fns es=>es.all fun e=>nr1 id e.2
 |_=>true
def clr (id:Nat) (v:AV):AV:=match nr3 id v with
 |true=>v
 |false=>.any
def ä.memR {α β:Type} {R d:α->β->Prop}:∀{l:AS α} {m:AS β},(∀a∈l,∀b,R a b->d a b)->ä R l m->ä d l m
 |[],[],_,_=>trivial
 |a::l,b::m,c,h=>⟨c a (by simp) b h.1,ä.memR (fun a ha=>c a (by simp[ha])) h.2⟩
 |[],_::_,_,h=>h.elim
 |_::_,[],_,h=>h.elim
def MP {f:Blk->Bool} (h0:f .dead=true):∀(l:AS Blk),l.all f=true->∀i,f (lkB l i)=true
 |[],_,i=>by cases i<;>exact h0
 |x::l,h,0=>by simp only[dN,bu] at h; exact h.1
 |x::l,h,i+1=>by simp only[dN,bu] at h; exact MP h0 l h.2 i
def MN {f:AV->Bool} (h0:f .any=true):∀(l:AS AV),l.all f=true->∀i,f (lk l i)=true
 |[],_,i=>by cases i<;>exact h0
 |x::l,h,0=>by simp only[dN,bu] at h; exact h.1
 |x::l,h,i+1=>by simp only[dN,bu] at h; exact MN h0 l h.2 i
def MM {f:AV->AV} (h0:f .any=.any):∀(l:AS AV) (i:Nat),lk (l.map f) i=f (lk l i)
 |[],i=>by cases i<;>exact h0.symm
 |x::l,0=>rfl
 |x::l,i+1=>MM h0 l i
section
variable {g:É} {D:AS Deferred} {Q:AN Nat} {M:Nat} {ν:Nat->Value} {h:AS Blk} {w:World} {id b0:Nat} {cs:AS AV}
abbrev nq (g:É) (b0:Nat):Nat->Prop:=fun k=>g.G k\/k=b0
def Nt (i:lkB h id=.cells cs) (d:ν id=.pointer (some ⟨b0,0,none⟩)) (k:Nat) (b:@Av _ (g.re (nq g b0) D Q M) ν (Ú h id .dead) k):@Av _ g ν h k:=by
 rcases b with⟨j,c,e⟩|b
 ·refine .inl ⟨j,?_,e⟩;rw[kq] at c
  split at c
  ·cases c
  ·exact c
 ·rcases b with b|rfl
  ·exact .inr b
  ·exact .inl ⟨id,by rw[i]; rfl,by rw[d]; rfl⟩
def Du (y:lkB h id=.cells cs) (s:ν id=.pointer (some ⟨b0,0,none⟩)) {a:AV} {v:Value} (z:nr0 id a=true) (l:@VR0 _ g ν h w a v):@VR0 _ (g.re (nq g b0) D Q M) ν (Ú h id .dead) w a v:=by
 have sub:=Nt (D:=D) (Q:=Q) (M:=M) (g:=g) y s
 have m:∀{j:Nat} {B:Blk},lkB h j=B->(∀cs,B≠.cells cs)->lkB (Ú h id .dead) j=B:=fun {j B} u A=>by
  rw[È _ (fun e=>by rw[e,y] at u; exact A _ u.symm)]; exact u
 cases a with
 |slc t xs=>exact CR.mono sub l
 |mp k t es=>exact CR.mono sub l
 |eptr t x off =>
  obtain⟨b,o,us,h1,h2,d,E,C⟩:=l;exact⟨b,o,us,h1,fun q=>h2 (sub b q),d,CR.mono sub E,C⟩
 |own j q=>obtain⟨h1,t,g',fz,xs,h2,d⟩:=l; exact⟨h1,t,g',fz,xs,m h2 (by simp),d⟩
 |sub j q lo n=>obtain⟨h1,t,g',fz,xs,h2,d⟩:=l; exact⟨h1,t,g',fz,xs,m h2 (by simp),d⟩
 |omp j=>obtain⟨h1,k,t,es,h2,d⟩:=l; exact⟨h1,k,t,es,m h2 (by simp),d⟩
 |optr j q i off=>obtain⟨h1,t,g',fz,xs,h2,d⟩:=l; exact⟨h1,t,g',fz,xs,m h2 (by simp),d⟩
 |dp j q=>obtain⟨h1,k,g',xss,h2,d⟩:=l; exact⟨h1,k,g',xss,m h2 (by simp),d⟩
 |dq j q i=>obtain⟨h1,k,g',xss,h2,d⟩:=l; exact⟨h1,k,g',xss,m h2 (by simp),d⟩
 |dr j q i=>obtain⟨h1,k,g',xss,h2,d⟩:=l; exact⟨h1,k,g',xss,m h2 (by simp),d⟩
 |de j q i o=>obtain⟨h1,k,g',xss,h2,d⟩:=l; exact⟨h1,k,g',xss,m h2 (by simp),d⟩
 |ofn j=>obtain⟨h1,es,h2,d⟩:=l; exact⟨h1,es,m h2 (by simp),d⟩
 |box j off =>
  obtain⟨c,b,h1,h2,d⟩:=l;refine⟨c,b,?_,h2,d⟩;rw[È _ (fun e=>by simp[nr0,e] at z)]; exact h1
 |_=>exact l
def xz (j:lkB h id=.cells cs) (b:ν id=.pointer (some ⟨b0,0,none⟩)) {a:AV} {v:Value} (d:nr1 id a=true) (i:@VR1 _ g ν h w a v):@VR1 _ (g.re (nq g b0) D Q M) ν (Ú h id .dead) w a v:=by
 cases e:a.isFn with
 |true =>
  cases a<;>try cases e
  obtain⟨fs,c,h1,h2,k⟩:=i;simp only[nr1,bu,bR] at d;exact⟨fs,c,h1,h2.memR fun a ha _=>Du j b (d.1 a ha),k.memR fun a ha _=>Du j b (d.2 a ha)⟩
 |false =>
  rw[@nu _ (g.re _ _ _ _) _ _ _ _ _ e];rw[@nu _ g _ _ _ _ _ e] at i;refine Du j b ?_ i
  cases a<;>first|exact d|cases e
def Jn (i:lkB h id=.cells cs) (b:ν id=.pointer (some ⟨b0,0,none⟩)) {a:AV} {v:Value} (e:nr2 id a=true) (d:@VR2 _ g ν h w a v):@VR2 _ (g.re (nq g b0) D Q M) ν (Ú h id .dead) w a v:=by
 cases c:a.isAgg with
 |true =>
  cases a<;>try cases c
  obtain⟨vs,h1,h2⟩:=d;simp only[nr2,bR] at e;exact⟨vs,h1,h2.memR fun a ha _ j=>⟨xz i b (e a ha) j.1,j.2⟩⟩
 |false =>
  rw[@oZ _ (g.re _ _ _ _) _ _ _ _ _ c];rw[@oZ _ g _ _ _ _ _ c] at d;refine xz i b ?_ d
  cases a<;>first|exact e|cases c
def Nu (i:lkB h id=.cells cs) (b:ν id=.pointer (some ⟨b0,0,none⟩)) {a:AV} {v:Value} (e:nr3 id a=true) (d:@VR _ g ν h w a v):@VR _ (g.re (nq g b0) D Q M) ν (Ú h id .dead) w a v:=by
 cases c:a.isTup with
 |true =>
  cases a<;>try cases c
  obtain⟨vs,h1,h2⟩:=d;simp only[nr3,bR] at e;exact⟨vs,h1,h2.memR fun a ha _=>Jn i b (e a ha)⟩
 |false =>
  rw[@nc _ (g.re _ _ _ _) _ _ _ _ _ c];rw[@nc _ g _ _ _ _ _ c] at d;refine Jn i b ?_ d
  cases a<;>first|exact e|cases c
def Nv (F:lkB h id=.cells cs) (A:ν id=.pointer (some ⟨b0,0,none⟩)) (N:(Ú h id .dead).all (nrB id)=true) (H:@HR _ g ν h w):@HR _ (g.re (nq g b0) D Q M) ν (Ú h id .dead) w:=by
 have sub:=Nt (D:=D) (Q:=Q) (M:=M) (g:=g) F A;have J:id<h.length:=Ģ F (by simp)
 have L:∀{j},(lkB (Ú h id .dead) j).live=true->j≠id/\(lkB h j).live=true:=fun {j} u=>by
  rw[kq] at u
  split at u
  ·cases u
  ·rename_i O;exact⟨fun e=>O ⟨e,J⟩,u⟩
 have R:∃c e,w.heap[b0]?=some (.cells c e (0,0)):=by
  have:=@HR.blk _ g _ _ _ H id;rw[F] at this;obtain⟨b,c,e,E,G,_⟩:=this;rw[A] at E; cases E;exact⟨c,e,G⟩
 refine @HR.mk _ (g.re (nq g b0) D Q M) _ _ _ (fun j=>?_) (fun i j b hi u=>@HR.inj _ g _ _ _ H i j b (L hi).2 (L u).2) (fun k C=>?_) (fun j k u hb C=>?_) (@HR.glob _ g _ _ _ H) (fun b hb ⟨j,u,V⟩=>@HR.globL _ g _ _ _ H b hb ⟨j,(L u).2,V⟩)
 ·by_cases u:j=id
  ·rw[u,Ð _ J]; trivial
  ·have l:=MP rfl _ N j;rw[È _ u] at l ⊢;have y:=@HR.blk _ g _ _ _ H j
   cases s:lkB h j with
   |dead=>trivial
   |cells c =>
    rw[s] at y l;obtain⟨b,c,e,h1,h2,B⟩:=y;simp only[nrB,bR] at l;exact⟨b,c,e,h1,h2,B.memR fun a ha _ S=>⟨xz F A (l a ha) S.1,S.2⟩⟩
   |row t g' fz xs =>
    rw[s] at y
    cases fz with
    |true=>exact CR.mono sub y
    |false =>
     obtain⟨base,cap,h1,h2,B⟩:=y;refine⟨base,cap,h1,h2,B.imp (fun z=>z) fun⟨b,off,c,e,K,Z,Y,X⟩=>⟨b,off,c,e,K,Z,Y,fun i x I=>?_⟩⟩;obtain⟨us,E,G⟩:=X i x I;exact⟨us,CR.mono sub E,G⟩
   |map k v es =>
    rw[s] at y;obtain⟨b,d,n,h1,h2,B,K⟩:=y;refine⟨b,d,n,h1,h2,B,fun i x I=>?_⟩;obtain⟨m,us,E,G,U,T⟩:=K i x I;exact⟨m,us,E,CR.mono sub G,CR.mono sub U,T⟩
   |deep k g' xss=>rw[s] at y; exact y
   |fns es =>
    rw[s] at y l;obtain⟨b,d,n,h1,h2,B⟩:=y;simp only[nrB,bR] at l;exact⟨b,d,n,h1,h2,B.memR fun e W _ q=>⟨q.1,q.2.1,xz F A (l e W) q.2.2⟩⟩
   |acc t xs =>
    rw[s] at y;obtain⟨us,h1,h2,B,K⟩:=y;exact⟨us,h1,h2,B,g.st _ _ _ _ _ _ K ⟨rfl,rfl,rfl,bt _,fun b _ O I=>O (sub b I),fun b o hb _ _=>hb,fun b o hb _ _=>hb,fun _ _ _=>rfl⟩⟩
 ·rcases C with C|rfl
  ·exact @HR.ghlt _ g _ _ _ H k C
  ·obtain⟨c,e,q⟩:=R;exact Õ q
 ·obtain⟨h1,h2⟩:=L u;rcases C with C|rfl
  ·exact @HR.ghne _ g _ _ _ H j k h2 hb C
  ·exact h1 (@HR.inj _ g _ _ _ H j id k h2 (by rw[F]; rfl) hb (by rw[A]; rfl))
end
section
variable {g:É} {G1:Nat->Prop} {D D1:AS Deferred} {Q Q1:AN Nat} {M M1:Nat} {ν:Nat->Value} {h:AS Blk} {w:World} {id b0:Nat} {cs:AS AV}
def N5 {P:Blk->Prop} (hd:lkB h id=.dead) {j:Nat} {B:Blk} (b:lkB h j=B) (c:B≠.dead) (C:Blk) (V:Value):lkB (Ú h id C) j=B/\Ü ν id V j=ν j:=by
 letI:É:=Gh fun _=>False
 have:j≠id:=fun e=>by rw[e,hd] at b; exact c b.symm
 exact⟨by rw[È _ this]; exact b,ê _ _ this⟩
def N6 (m:id<h.length) (n:∀b,g.G b->G1 b) (i:G1 b0) (k:Nat) (d:@Av _ (g.re g.G D Q M) (Ü ν id (.pointer (some ⟨b0,0,none⟩))) (Ú h id (.cells cs)) k):@Av _ (g.re G1 D1 Q1 M1) ν h k:=by
 rcases d with⟨j,l,c⟩|d
 ·by_cases e:j=id
  ·rw[e,Ç] at c; cases c; exact .inr i
  ·rw[È _ e] at l; rw[ê _ _ e] at c; exact .inl ⟨j,l,c⟩
 ·exact .inr (n k d)
def DL (hd:lkB h id=.dead) (u:id<h.length) (A:∀b,g.G b->G1 b) (y:G1 b0) {a:AV} {v:Value} (e:@VR0 _ (g.re G1 D1 Q1 M1) ν h w a v):@VR0 _ (g.re g.G D Q M) (Ü ν id (.pointer (some ⟨b0,0,none⟩))) (Ú h id (.cells cs)) w a v:=by
 have sub:=N6 (D:=D) (Q:=Q) (M:=M) (D1:=D1) (Q1:=Q1) (M1:=M1) (ν:=ν) (cs:=cs) u A y;have m:∀{j:Nat} {B:Blk},lkB h j=B->B≠.dead->lkB (Ú h id (.cells cs)) j=B:=fun {j B} s z=>(N5 (P:=fun _=>True) (ν:=ν) hd s z _ .nilFunc).1;have l:∀{j:Nat} {B:Blk},lkB h j=B->B≠.dead->Ü ν id (.pointer (some ⟨b0,0,none⟩)) j=ν j:=fun {j B} s z=>(N5 (P:=fun _=>True) (ν:=ν) hd s z (.cells cs) _).2
 cases a with
 |slc t xs=>exact CR.mono sub e
 |mp k t es=>exact CR.mono sub e
 |eptr t x off =>
  obtain⟨b,o,us,h1,h2,d,E,C⟩:=e;exact⟨b,o,us,h1,fun q=>h2 (sub b q),d,CR.mono sub E,C⟩
 |own j q=>obtain⟨h1,t,g',fz,xs,h2,d⟩:=e; exact⟨h1,t,g',fz,xs,m h2 (by simp),by rw[l h2 (by simp)]; exact d⟩
 |sub j q lo n=>obtain⟨h1,t,g',fz,xs,h2,d⟩:=e; exact⟨h1,t,g',fz,xs,m h2 (by simp),by rw[l h2 (by simp)]; exact d⟩
 |omp j=>obtain⟨h1,k,t,es,h2,d⟩:=e; exact⟨h1,k,t,es,m h2 (by simp),by rw[l h2 (by simp)]; exact d⟩
 |optr j q i off=>obtain⟨h1,t,g',fz,xs,h2,d⟩:=e; exact⟨h1,t,g',fz,xs,m h2 (by simp),by rw[l h2 (by simp)]; exact d⟩
 |dp j q=>obtain⟨h1,k,g',xss,h2,d⟩:=e; exact⟨h1,k,g',xss,m h2 (by simp),by rw[l h2 (by simp)]; exact d⟩
 |dq j q i=>obtain⟨h1,k,g',xss,h2,d⟩:=e; exact⟨h1,k,g',xss,m h2 (by simp),by rw[l h2 (by simp)]; exact d⟩
 |dr j q i=>obtain⟨h1,k,g',xss,h2,d⟩:=e; exact⟨h1,k,g',xss,m h2 (by simp),by rw[l h2 (by simp)]; exact d⟩
 |de j q i o=>obtain⟨h1,k,g',xss,h2,d⟩:=e; exact⟨h1,k,g',xss,m h2 (by simp),by rw[l h2 (by simp)]; exact d⟩
 |ofn j=>obtain⟨h1,es,h2,d⟩:=e; exact⟨h1,es,m h2 (by simp),d.trans (l h2 (by simp)).symm⟩
 |box j off=>obtain⟨c,b,h1,h2,d⟩:=e; exact⟨c,b,m h1 (by simp),by rw[l h1 (by simp)]; exact h2,d⟩
 |_=>exact e
def xB (hd:lkB h id=.dead) (d:id<h.length) (k:∀b,g.G b->G1 b) (e:G1 b0) {a:AV} {v:Value} (i:@VR1 _ (g.re G1 D1 Q1 M1) ν h w a v):@VR1 _ (g.re g.G D Q M) (Ü ν id (.pointer (some ⟨b0,0,none⟩))) (Ú h id (.cells cs)) w a v:=by
 cases j:a.isFn with
 |true =>
  cases a<;>try cases j
  obtain⟨fs,c,h1,h2,l⟩:=i;exact⟨fs,c,h1,h2.mono fun _ _=>DL hd d k e,l.mono fun _ _=>DL hd d k e⟩
 |false =>
  rw[@nu _ (g.re _ _ _ _) _ _ _ _ _ j];rw[@nu _ (g.re G1 _ _ _) _ _ _ _ _ j] at i;exact DL hd d k e i
def JG (hd:lkB h id=.dead) (c:id<h.length) (k:∀b,g.G b->G1 b) (d:G1 b0) {a:AV} {v:Value} (e:@VR2 _ (g.re G1 D1 Q1 M1) ν h w a v):@VR2 _ (g.re g.G D Q M) (Ü ν id (.pointer (some ⟨b0,0,none⟩))) (Ú h id (.cells cs)) w a v:=by
 cases i:a.isAgg with
 |true =>
  cases a<;>try cases i
  obtain⟨vs,h1,h2⟩:=e;exact⟨vs,h1,h2.mono fun _ _ j=>⟨xB hd c k d j.1,j.2⟩⟩
 |false =>
  rw[@oZ _ (g.re _ _ _ _) _ _ _ _ _ i];rw[@oZ _ (g.re G1 _ _ _) _ _ _ _ _ i] at e;exact xB hd c k d e
def N7 (hd:lkB h id=.dead) (c:id<h.length) (j:∀b,g.G b->G1 b) (d:G1 b0) {a:AV} {v:Value} (e:@VR _ (g.re G1 D1 Q1 M1) ν h w a v):@VR _ (g.re g.G D Q M) (Ü ν id (.pointer (some ⟨b0,0,none⟩))) (Ú h id (.cells cs)) w a v:=by
 cases i:a.isTup with
 |true =>
  cases a<;>try cases i
  obtain⟨vs,h1,h2⟩:=e;exact⟨vs,h1,h2.mono fun _ _=>JG hd c j d⟩
 |false =>
  rw[@nc _ (g.re _ _ _ _) _ _ _ _ _ i];rw[@nc _ (g.re G1 _ _ _) _ _ _ _ _ i] at e;exact JG hd c j d e
def N8 (hd:lkB h id=.dead) (F:id<h.length) (R:∀b,g.G b->G1 b) (I:G1 b0) (X:¬g.G b0) (W:¬b0<Globs.n) {c:Array Value} {e:TypeId} (hw:w.heap[b0]?=some (.cells c e (0,0)))
 (hc:ä (@VRc _ (g.re g.G D Q M) (Ü ν id (.pointer (some ⟨b0,0,none⟩))) (Ú h id (.cells cs)) w) cs c.toList) (H:@HR _ (g.re G1 D1 Q1 M1) ν h w):@HR _ (g.re g.G D Q M) (Ü ν id (.pointer (some ⟨b0,0,none⟩))) (Ú h id (.cells cs)) w:=by
 have sub:=N6 (D:=D) (Q:=Q) (M:=M) (D1:=D1) (Q1:=Q1) (M1:=M1) (ν:=ν) (cs:=cs) F R I
 have V:∀{j b},(lkB (Ú h id (.cells cs)) j).live=true->ć (Ü ν id (.pointer (some ⟨b0,0,none⟩)) j) b->(j=id/\b=b0)\/(j≠id/\(lkB h j).live=true/\ć (ν j) b):=fun {j b} B K=>by
  by_cases q:j=id
  ·rw[q,Ç] at K; cases K; exact .inl ⟨q,rfl⟩
  ·rw[È _ q] at B; rw[ê _ _ q] at K; exact .inr ⟨q,B,K⟩
 refine @HR.mk _ (g.re g.G D Q M) _ _ _ (fun j=>?_) (fun i j b hi B Z Y=>?_) (fun k O=>@HR.ghlt _ (g.re G1 D1 Q1 M1) _ _ _ H k (R k O)) (fun j k B hb O=>?_) (@HR.glob _ (g.re G1 D1 Q1 M1) _ _ _ H) (fun b hb ⟨j,B,K⟩=>by
  rcases V B K with⟨_,q⟩|⟨_,s,C⟩
  ·rw[q] at hb; exact W hb
  ·exact @HR.globL _ (g.re G1 D1 Q1 M1) _ _ _ H b hb ⟨j,s,C⟩)
 ·by_cases B:j=id
  ·rw[B,Ð _ F];exact⟨b0,c,e,Ç _ _ _,hw,hc⟩
  ·rw[È _ B];have A:=@HR.blk _ (g.re G1 D1 Q1 M1) _ _ _ H j;have l:=ê ν (.pointer (some ⟨b0,0,none⟩)) B
   cases y:lkB h j with
   |dead=>trivial
   |cells c2 =>
    rw[y] at A;obtain⟨b,c3,e3,h1,h2,J⟩:=A;exact⟨b,c3,e3,l.trans h1,h2,J.mono fun _ _ hq=>⟨xB hd F R I hq.1,hq.2⟩⟩
   |row t g' fz xs =>
    rw[y] at A
    cases fz with
    |true =>
     show CR w _ _ _ [Ü ν id _ j];rw[l]; exact CR.mono sub A
    |false =>
     obtain⟨base,cap,h1,h2,J⟩:=A;refine⟨base,cap,l.trans h1,h2,J.imp (fun z=>z) fun⟨b,off,c,e,S,h5,h6,h7⟩=>⟨b,off,c,e,S,h5,h6,fun i x L=>?_⟩⟩;obtain⟨us,E,s⟩:=h7 i x L;exact⟨us,CR.mono sub E,s⟩
   |map k v es =>
    rw[y] at A;obtain⟨b,d,u,h1,h2,J,S⟩:=A;refine⟨b,d,u,l.trans h1,h2,J,fun i x L=>?_⟩;obtain⟨m,us,E,s,C,U⟩:=S i x L;exact⟨m,us,E,CR.mono sub s,CR.mono sub C,U⟩
   |deep k g' xss =>
    rw[y] at A;obtain⟨base,cap,us,h1,h2⟩:=A;exact⟨base,cap,us,l.trans h1,h2⟩
   |fns es =>
    rw[y] at A;obtain⟨b,d,u,h1,h2,J⟩:=A;exact⟨b,d,u,l.trans h1,h2,J.mono fun _ _ q=>⟨q.1,q.2.1,xB hd F R I q.2.2⟩⟩
   |acc t xs =>
    rw[y] at A;obtain⟨us,h1,h2,J,S⟩:=A;refine⟨us,l.trans h1,by rw[l]; exact h2,J,?_⟩;rw[l];exact g.st _ _ _ _ _ _ S ⟨rfl,rfl,rfl,bt _,fun b _ hn L=>hn (sub b L),fun b o hb _ _=>hb,fun b o hb _ _=>hb,fun _ _ _=>rfl⟩
 ·have N:∀{j b},(lkB h j).live=true->ć (ν j) b->b≠b0:=fun {j b} E s C=>@HR.ghne _ (g.re G1 D1 Q1 M1) _ _ _ H j b E s (by rw[C]; exact I)
  rcases V hi Z with⟨E,s⟩|⟨E,s,C⟩<;>rcases V B Y with⟨U,T⟩|⟨U,T,q6⟩
  ·rw[E,U]
  ·exact absurd s (N T q6)
  ·exact absurd T (N s C)
  ·exact @HR.inj _ (g.re G1 D1 Q1 M1) _ _ _ H i j b s T C q6
 ·rcases V B hb with⟨E,s⟩|⟨E,s,C⟩
  ·rw[s] at O; exact X O
  ·exact @HR.ghne _ (g.re G1 D1 Q1 M1) _ _ _ H j k s C (R k O)
end
def st0 (pin:Nat):AV->Bool
 |.any=>true
 |.und=>true
 |.bool _=>true
 |.int _ _=>true
 |.str _=>true
 |.nils=>true
 |.slc _ _=>true
 |.nilm=>true
 |.mp _ _ _=>true
 |.nilp=>true
 |.nilfn=>true
 |.yld=>true
 |.ifc _=>true
 |.box id _=>Nat.blt id pin
 |.ofn id=>Nat.blt id pin
 |_=>false
def st3 (pin:Nat):AV->Bool
 |.fn _ a b=>a.all (st0 pin)&&b.all (st0 pin)
 |a=>st0 pin a
section
variable [É] {ν ν':Nat->Value} {h h':AS Blk} {w w':World} {pin:Nat}
def VR0.stab (e:Ev pin ν h w ν' h' w') {a:AV} {v:Value} (c:st0 pin a=true) (j:VR0 ν h w a v):VR0 ν' h' w' a v:=by
 cases a with
 |box id off =>
  obtain⟨cs,b,l,h1,h2⟩:=j;have d:id<pin:=ca c;have hb:=e.blk id d;rw[l] at hb;obtain⟨⟨o,i⟩,m⟩:=hb;exact⟨o,b,i,by rw[m]; exact h1,h2⟩
 |ofn id =>
  obtain⟨h1,es,l,h2⟩:=j;have d:id<pin:=ca c;have hb:=e.blk id d;rw[l] at hb;obtain⟨⟨n,i⟩,m⟩:=hb;exact⟨h1,n,i,by rw[m]; exact h2⟩
 |slc t xs=>exact CR.keep e.keepA j
 |mp k t es=>exact CR.keep e.keepA j
 |own=>cases c
 |sub=>cases c
 |omp=>cases c
 |optr=>cases c
 |eptr=>cases c
 |dp=>cases c
 |dq=>cases c
 |dr=>cases c
 |de=>cases c
 |fn=>cases c
 |agg=>cases c
 |tup=>cases c
 |_=>exact j
def VR.stab (e:Ev pin ν h w ν' h' w') {a:AV} {v:Value} (c:st3 pin a=true) (d:VR ν h w a v):VR ν' h' w' a v:=by
 cases a with
 |fn f fa fb =>
  obtain⟨fs,cs,h1,h2,i⟩:=d;simp only[st3,bu,bR] at c;exact⟨fs,cs,h1,h2.memR fun a ha _=>VR0.stab e (c.1 a ha),i.memR fun a ha _=>VR0.stab e (c.2 a ha)⟩
 |agg=>cases c
 |tup=>cases c
 |any=>trivial
 |und=>exact d
 |bool=>exact d
 |int=>exact d
 |str=>exact d
 |nils=>exact d
 |nilm=>exact d
 |nilp=>exact d
 |nilfn=>exact d
 |yld=>exact d
 |box id off=>exact VR0.stab (a:=.box id off) e c d
 |ofn id=>exact VR0.stab (a:=.ofn id) e c d
 |ifc b=>exact d
 |slc t xs=>exact VR0.stab (a:=.slc t xs) e rfl d
 |mp k t es=>exact VR0.stab (a:=.mp k t es) e rfl d
 |own=>cases c
 |sub=>cases c
 |omp=>cases c
 |optr=>cases c
 |eptr=>cases c
 |dp=>cases c
 |dq=>cases c
 |dr=>cases c
 |de=>cases c
def RM {t:Ty} (c:t.isAgg=false) {x:Val t} {u:Value} (b:CR w (Av ν h) t x [u]):VR ν h w (enc t x) u:=by
 have d:flat t x=[enc t x]:=by cases t<;>first|rfl|cases c
 have:=fQ (ν:=ν) (h:=h) b;rw[d] at this;exact VR1.up this.1.1
end
def Υ (P:Program) (f:Nat):AN Code :=
 match P.funcs[f]? with
 |some fn=>fn.body
 |none=>none
structure GB (ρ:Type) where
 path:AS Nat
 fid:Nat
 bid:Nat
 pin:Nat
 cs:AS Ty
 vs:AS Ty
 head:Tpl
 it:IFun
 bF:Val (tyL cs)->Val (tyL vs)->Val it.et->(Val (tyL vs)->AN ρ)->AN ρ
section
variable {ρ:Type}
def Iq (E:Env ρ) (call:AS Nat->Bool->Nat->AS AV->AS Blk->(AV->AS Blk->AN ρ)->AN ρ) (fid:Nat) (path:AS Nat) (pin bid:Nat) (it:LI) (S:St) (y:AV) (c:St->AN ρ):AN ρ :=
 match it with
 |.rf _ ps a b=>match ps.toList with
  |[p]=>goC E call fid path pin bid a {t:=upd S.t p y,h:=S.h} fun e S=>match e with
   |.normal=>goC E call fid path pin bid b S fun e S=>match e with
    |.normal=>c S
    |_=>none
   |_=>none
  |_=>none
 |_=>none
def GB.back (x:GB ρ) (b:Val (tyL x.cs)->Val (tyL x.vs)->AN ρ) (S:St):AN ρ:=match jl x.head x.pin x.cs x.vs S with
 |some (p,v)=>b p v
 |none=>none
structure GB.Ok (E:Env ρ) (x:GB ρ):Prop where
 one:(((Υ E.P x.fid).elim [] (Ò 0)).filter fun y=>Nat.beq y.1 x.bid).length=1
 it:Gp E.P x.it
 tm:∀p v v',(Ý x.head x.cs x.vs p v').t=(Ý x.head x.cs x.vs p v).t
 stab:∀p v,(Ý x.head x.cs x.vs p v).t.all (st3 x.pin)=true
 law:∀p v y (kn:Val (tyL x.cs)->Val (tyL x.vs)->AN ρ),Iq E (Α E (10-x.path.length / 2)) x.fid x.path x.pin x.bid (qQ (Υ E.P x.fid) x.bid) (Ý x.head x.cs x.vs p v) (enc x.it.et y) (x.back kn)=x.bF p v y (kn p)
def rngK (x:GB ρ) (m:Nat) (g:AV) (S:St) (K:Exit->St->AN ρ):AN ρ :=
 match Nat.ble m x.pin with
 |true=>match g with
  |.fn (.func c) [] [.box id 0]=>match Nat.beq c x.it.clo with
   |true=>match lkB S.h id with
    |.cells cs=>match cs.all (fun a=>!rU a)&&(Ú S.h id .dead).all (nrB id) with
     |true=>match Ï x.it.ct cs with
      |some d=>match jl x.head x.pin x.cs x.vs {t:=S.t.map (clr id),h:=Ú S.h id .dead} with
       |some (p,v)=>Â (x.it.F d) fun xs=>Ni (x.bF p) xs v fun v=>K .normal (bif Nat.blt id x.pin then {t:=(Ý x.head x.cs x.vs p v).t,h:=Ú (Ý x.head x.cs x.vs p v).h id (.cells (flat x.it.ct d))} else Ý x.head x.cs x.vs p v)
       |none=>none
      |none=>none
     |false=>none
    |_=>none
   |false=>none
  |_=>none
 |false=>none
structure RJ (g:É) (x:GB ρ) (ν:Nat->Value) (h:AS Blk) (p:Val (tyL x.cs)) (xs:AS (Val x.it.et)) (Kf:Val (tyL x.vs)->AN ρ) (r:ρ) (ν1:Nat->Value) (h1:AS Blk) (a:Act) (t1:AS AV) (W1:World) (O X:Nat->Prop) (pre:AS (Val x.it.et)) (W:World):Prop where
 os:W.os=W1.os
 tape:W.tape=W1.tape
 output:W.output=W1.output
 size:W1.heap.size<=W.heap.size
 nd:∀(k:Nat) (o:Obj),W1.heap[k]?=some o->wH o=false->W.heap[k]?=some o
 ex:∃(ν':Nat->Value) (v':Val (tyL x.vs)) (suf:AS (Val x.it.et)),xs=pre++suf/\Ni (x.bF p) suf v' Kf=some r/\(∀k,O k↔jG ν' (Ý x.head x.cs x.vs p v').h k) /\
  @HR _ (g.re (fun k=>X k/\¬O k/\k<W.heap.size) [] none 0) ν' (Ý x.head x.cs x.vs p v').h W /\
  (∀i,@VR _ (g.re (fun k=>X k/\¬O k/\k<W.heap.size) [] none 0) ν' (Ý x.head x.cs x.vs p v').h W (lk t1 i) (a.tmps.getD i undef)) /\
  (∀b,b<W1.heap.size->¬jG ν h b->¬jG ν' (Ý x.head x.cs x.vs p v').h b) /\
  (∀id,id<x.pin->(lkB h1 id).next ν1 ν' id (lkB (Ý x.head x.cs x.vs p v').h id))/\Dd x.pin h1 (Ý x.head x.cs x.vs p v').h
section
variable {g:É} {x:GB ρ} {ν:Nat->Value} {h:AS Blk} {p:Val (tyL x.cs)} {xs:AS (Val x.it.et)} {Kf:Val (tyL x.vs)->AN ρ} {r:ρ} {ν1:Nat->Value} {h1:AS Blk} {a:Act} {t1:AS AV} {W1:World}
def RJ.st (s:g.B<=W1.heap.size) {O X v:Nat->Prop} {d:AS (Val x.it.et)} {W l:World} (H:RJ g x ν h p xs Kf r ν1 h1 a t1 W1 O X d W) (S:StepJ W1.heap.size O X W v l):RJ g x ν h p xs Kf r ν1 h1 a t1 W1 O v d l:=by
 obtain⟨V,U,T,R,N,ν',e,m,K,J,n,I,G,F,E,C⟩:=H;have av:∀b,@Av _ (g.re (fun k=>X k/\¬O k/\k<W.heap.size) [] none 0) ν' (Ý x.head x.cs x.vs p e).h b↔jG ν' (Ý x.head x.cs x.vs p e).h b\/(X b/\¬O b/\b<W.heap.size):=fun b=>Iff.rfl
 have A:Ū (g.re (fun k=>X k/\¬O k/\k<W.heap.size) [] none 0) ν' (Ý x.head x.cs x.vs p e).h W (fun k=>v k/\¬O k/\k<l.heap.size) l:=by
  refine⟨S.os,S.tape,S.output,S.size,fun b hb y j=>?_,fun b o hb c j=>?_,fun b o hb c q=>S.nd b o hb c (bH q s),S.gl⟩
  ·rw[av] at y;exact S.av b hb (fun u=>y (.inr ⟨u,j.2.1,hb⟩)) j.1
  ·refine S.dat b o hb c fun u=>?_;rcases Classical.em (O b) with h'|h'
   ·exact h'
   ·exact(n b).2 (j ((av b).2 (.inr ⟨u,h',Õ hb⟩)))
 refine⟨S.os.trans V,S.tape.trans U,S.output.trans T,bG R S.size,fun k o z c=>S.nd k o (N k o z c) c (Õ z),ν',e,m,K,J,n,?_,fun i=>?_,F,E,C⟩
 ·exact HR.step (g:=g.re (fun k=>X k/\¬O k/\k<W.heap.size) [] none 0) (D:=[]) (Q:=none) (M:=0) A (fun b hb=>hb.2.2) (fun b L hb=>hb.2.1 ((n b).2 L)) I
 ·exact VR.step (g:=g.re (fun k=>X k/\¬O k/\k<W.heap.size) [] none 0) (D:=[]) (Q:=none) (M:=0) A (G i)
def atP {x:GB ρ} (p:Val (tyL x.cs)) (k:Val (tyL x.vs)->AN ρ) (b:Val (tyL x.cs)) (v:Val (tyL x.vs)):AN ρ:=open Classical in if b=p then k v else none
def Qc {x:GB ρ} (p:Val (tyL x.cs)) (k:Val (tyL x.vs)->AN ρ):atP p k p=k:=by
 funext v; unfold atP; rw[if_pos rfl]
def Qb {x:GB ρ} {p b:Val (tyL x.cs)} {k:Val (tyL x.vs)->AN ρ} {v:Val (tyL x.vs)} {r:ρ} (h:atP p k b v=some r):b=p/\k v=some r:=by
 unfold atP at h
 split at h
 ·exact⟨‹_›,h⟩
 ·cases h
def Na (ν:Nat->Value) (h:AS Blk):∃us:Array Value,∀b,ć (.agg us) b↔jG ν h b:=by
 have s:∀n,∃l:AS Value,∀b,(∃u∈l,Χ u=some b)↔∃id,id<n/\(lkB h id).live=true/\ć (ν id) b:=by
  intro n
  induction n with
  |zero=>exact⟨[],fun b=>⟨fun⟨u,d,_⟩=>(by cases d),fun⟨_,hi,_⟩=>(by omega)⟩⟩
  |succ n z =>
   obtain⟨l,o⟩:=z
   obtain⟨m,y⟩:∃m:AS Value,∀b,(∃u∈m,Χ u=some b)↔((lkB h n).live=true/\ć (ν n) b):=by
    cases A:(lkB h n).live with
    |false=>exact⟨[],fun b=>⟨fun⟨u,d,_⟩=>(by cases d),fun⟨q,_⟩=>(by cases q)⟩⟩
    |true =>
     cases B:ν n with
     |agg vs=>exact⟨vs.toList,fun b=>⟨fun q=>⟨rfl,q⟩,fun q=>q.2⟩⟩
     |pointer a=>exact⟨[.pointer a],fun b=>⟨fun⟨u,d,q⟩=>⟨rfl,by rw[bE.1 d] at q; exact q⟩,fun q=>⟨_,.head _,q.2⟩⟩⟩
     |slice a k c=>exact⟨[.slice a k c],fun b=>⟨fun⟨u,d,q⟩=>⟨rfl,by rw[bE.1 d] at q; exact q⟩,fun q=>⟨_,.head _,q.2⟩⟩⟩
     |map r=>exact⟨[.map r],fun b=>⟨fun⟨u,d,q⟩=>⟨rfl,by rw[bE.1 d] at q; exact q⟩,fun q=>⟨_,.head _,q.2⟩⟩⟩
     |_=>exact⟨[],fun b=>⟨fun⟨u,d,_⟩=>(by cases d),fun q=>q.2.elim⟩⟩
   refine⟨l++m,fun b=>⟨fun⟨u,d,q⟩=>?_,fun⟨i,hi,e,j⟩=>?_⟩⟩
   ·rcases bw.1 d with d|d
    ·obtain⟨i,hi,e⟩:=(o b).1 ⟨u,d,q⟩;exact⟨i,by omega,e⟩
    ·exact⟨n,by omega,(y b).1 ⟨u,d,q⟩⟩
   ·rcases Nat.lt_succ_iff_lt_or_eq.1 hi with h1|rfl
    ·obtain⟨u,d,q⟩:=(o b).2 ⟨i,h1,e,j⟩;exact⟨u,b8 _ d,q⟩
    ·obtain⟨u,d,q⟩:=(y b).2 ⟨e,j⟩;exact⟨u,bY _ d,q⟩
 obtain⟨l,o⟩:=s h.length;refine⟨l.toArray,fun b=>⟨fun q=>?_,fun⟨id,e,j⟩=>?_⟩⟩
 ·obtain⟨id,_,e,j⟩:=(o b).1 (by simpa using q);exact⟨id,e,j⟩
 ·have v:id<h.length:=by
   rcases cd id h.length with h'|h'
   ·exact h'
   ·letI:É:=Gh fun _=>False
    rw[wq _ _ h'] at e; cases e
  simpa using(o b).2 ⟨id,v,e,j⟩
def Ĭ {w:World} {l:Nat} {o':Obj} {c:Loop} (d:w.heap[l]?=some (.loop c)) (b:Nat) (o:Obj) (hb:w.heap[b]?=some o) (hd:wH o=true\/b≠l):(w.putObj l o').heap[b]?=some o:=by
 have:b≠l:=fun e=>by
  subst e;rcases hd with hd|hd
  ·rw[d] at hb; cases hb; cases hd
  ·exact hd rfl
 rw[World.putObj_heap_other this]; exact hb
def xu {w:World} {l:Nat} {o':Obj} {d:Loop} (e:w.heap[l]?=some (.loop d)) (c:Globs.Φ w) (b:Nat) (hb:b<Globs.n):(w.putObj l o').heap[b]?=w.heap[b]?:=by
 obtain⟨o,h1,h2⟩:=Globs.dat w c b hb;rw[h1]; exact Ĭ e b o h1 (.inl h2)
def RJ.round {E:Env ρ} {N:Nat} {call:AS Nat->Bool->Nat->AS AV->AS Blk->(AV->AS Blk->AN ρ)->AN ρ} (hEnv:∀[É],ř E->ψ E N call) (hDraw:∀[É],ψ E N call->jD E N call) (R:x.path.length+2=N) (hy:@ř _ g ρ E)
 {gop:Operand} {ps:Array Tmp} {A Bd:Code} {p0:Tmp} (hps:ps.toList=[p0]) (hL:∀[É],ř E->∀z∈Ò x.bid A++Ò x.bid Bd,fq E x.path x.fid z.1 z.2)
 (hag:x.it.et.isAgg=false) (htm:∀p v v',(Ý x.head x.cs x.vs p v').t=(Ý x.head x.cs x.vs p v).t) (hst:∀p v,(Ý x.head x.cs x.vs p v).t.all (st3 x.pin)=true)
 (hlen:∀v,x.pin<=(Ý x.head x.cs x.vs p v).h.length)
 (law:∀p v y (kn:Val (tyL x.cs)->Val (tyL x.vs)->AN ρ),Iq E call x.fid x.path x.pin x.bid (.rf gop ps A Bd) (Ý x.head x.cs x.vs p v) (enc x.it.et y) (fun S=>match jl x.head x.pin x.cs x.vs S with
  |some (p,v)=>kn p v
  |none=>none)=x.bF p v y (kn p))
 {J:FuncId} {dn:Nat} {l:Nat} (hl1:W1.heap[l]?=some (.loop {state:=.ready,pending:=none,fn:=J,tmps:=a.tmps,params:=ps,assign:=A,body:=Bd,defers:=dn})) (hgl:g.B<=l) (hgB:g.B<=W1.heap.size) (ht1:∃v,t1=(Ý x.head x.cs x.vs p v).t) (htl:t1.length<=a.tmps.size)
 {O X:Nat->Prop} {pre:AS (Val x.it.et)} {y:Val x.it.et} {u:Value} {W:World} (H:RJ g x ν h p xs Kf r ν1 h1 a t1 W1 O X pre W) (hOX:∀b,O b->X b) (hXs:∀b,X b->b<W.heap.size) (hpre:pre++[y] <+: xs) (hcr:CR W X x.it.et y [u]) :
 YieldAt Fence.wide 0 E.P l #[u] W fun e W'=>e=.returned (.bool true)/\W'.os=W.os/\W'.tape=W.tape/\W'.output=W.output/\W.heap.size<=W'.heap.size /\
  ∃us,(∀b,b<W.heap.size->¬O b->W'.heap[b]?=W.heap[b]?/\¬ć (.agg us) b)/\(∀b,ć (.agg us) b->∃o,W'.heap[b]?=some o/\wH o=true)/\RJ g x ν h p xs Kf r ν1 h1 a t1 W1 (ć (.agg us)) (fun b=>(X b/\¬O b)\/ć (.agg us) b) (pre++[y]) W':=by
 obtain⟨e1,e2,e3,e4,e5,ν',v',suf,q1,q2,q3,q4,q5,q6,q7,q8⟩:=H
 -- what is yielded is what comes next
 obtain⟨n,rfl⟩:∃n,suf=y::n:=by
  obtain⟨s,hs⟩:=hpre;rw[q1,bM] at hs;exact⟨s,(List.append_cancel_left hs).symm⟩
 have hl:W.heap[l]?=_:=e5 l _ hl1 rfl;obtain⟨GX,hGX⟩:∃GX:Nat->Prop,GX=fun k=>X k/\¬O k/\k<W.heap.size:=⟨_,rfl⟩;rw[<-hGX] at q4 q5
 letI gr:É:=g.re GX [] (some l) W.heap.size
 have hyr:ř E:=hy;have hE:=hEnv hyr;have hD:=hDraw hE;obtain⟨S,hS⟩:∃S,S=Ý x.head x.cs x.vs p v':=⟨_,rfl⟩
 have hSt:S.t=t1:=by obtain⟨v0,h0⟩:=ht1; rw[hS,h0]; exact htm p v0 v'
 have hlen':x.pin<=S.h.length:=by rw[hS]; exact hlen v'
 rw[<-hS] at q3 q4 q5 q6 q7 q8;have H0:HR ν' S.h W:=HR.re (g:=g.re GX [] none 0) q4
 have V0:∀i,VR ν' S.h W (lk S.t i) (a.tmps.getD i undef):=fun i=>by rw[hSt]; exact q5 i
 have avX:∀b,Av ν' S.h b->X b:=fun b hb=>by
  rcases hb with hb|hb
  ·exact hOX b ((q3 b).2 hb)
  ·have hb:GX b:=hb;rw[hGX] at hb; exact hb.1
 have hu:VR ν' S.h W (enc x.it.et y) u:=RM hag (CR.mono avX hcr);have fr0:∀(W2:World) (r2:Loop),W2.heap[l]?=some (.loop r2)->W.heap.size<=W2.heap.size->Fr W2 []:=fun W2 r2 h2 h3=>⟨⟨[],rfl,du,fun _ q=>(by cases q)⟩,fun l' e=>by cases e; exact⟨r2,h2⟩,bG hgB e4,h3⟩
 have sim0:Sim ν' {t:=upd S.t p0 (enc x.it.et y),h:=S.h} {tmps:=a.tmps.setIfInBounds p0 u,defers:=[]} W:=by
  have s0:Sim ν' S {tmps:=a.tmps,defers:=[]} W:=⟨fr0 W _ hl (bt _),by rw[hSt]; exact htl,V0,H0⟩;exact s0.put (Ev.refl _ _ _ _) H0 (some p0) hu
 -- the law
 have C:=law p v' y (atP p fun v=>Ni (x.bF p) n v Kf);rw[Qc,show x.bF p v' y (fun v=>Ni (x.bF p) n v Kf)=some r from q2,<-hS] at C;unfold Iq at C;simp only[hps] at C;have hLr:∀z∈Ò x.bid A++Ò x.bid Bd,fq E x.path x.fid z.1 z.2:=hL hyr;have hgo:=lX hE R A x.bid _ _ ν' _ W (fun _=>hD) (fun z hz=>hLr z (List.mem_append_left _ hz)) C sim0 hlen'
 have htm0:((ps.zip #[u]).foldl (fun t (p,v)=>t.setIfInBounds p v) a.tmps)=a.tmps.setIfInBounds p0 u:=by
  have:ps=#[p0]:=by rw[<-bT,hps]
  rw[this]; simp
 refine ⟨_, _, _, _, run_yield hl (by have : ps = #[p0] := by (rw [<- bT, hps])
                                      rw[this]; rfl),?_⟩
 rw[htm0];refine roundIn_of_wpIn (F:=Fence.wide) trivial (wpIn_mono (show A.wpIn (Fence.wide.inRound l) 0 E.P _ _ W from hgo) fun e aA WA hA=>?_);obtain⟨Y,SA,sA,j,lnA,ddA,kA⟩:=hA
 cases e with
 |normal =>
  simp only at kA;have T:WA.heap[l]?=some (.loop _):=H0.nd j l _ hl rfl;refine⟨_,run_beginRound T rfl,?_⟩;have d:Ū gr Y SA.h WA gr.G (WA.putObj l (.loop {state:=.busy,pending:=none,fn:=J,tmps:=a.tmps,params:=ps,assign:=A,body:=Bd,defers:=dn})):=Ū.nds rfl rfl rfl (by simp) fun b o hb hd=>Ĭ T b o hb (hd.imp id fun hlt=>by have:b<g.B:=hlt; omega);obtain⟨Wb,hWb⟩:∃Wb,Wb=WA.putObj l (.loop {state:=.busy,pending:=none,fn:=J,tmps:=a.tmps,params:=ps,assign:=A,body:=Bd,defers:=dn}):=⟨_,rfl⟩;rw[<-hWb] at d ⊢
  have hlb:Wb.heap[l]?=some (.loop {state:=.busy,pending:=none,fn:=J,tmps:=a.tmps,params:=ps,assign:=A,body:=Bd,defers:=dn}):=by rw[hWb]; exact World.putObj_heap_same (Õ T)
  have sB:Sim Y SA aA Wb:=by
   refine⟨?_,sA.len,fun i=>VR.step (g:=gr) (D:=[]) (Q:=some l) (M:=W.heap.size) d (sA.tmps i),HR.step (g:=gr) (D:=[]) (Q:=some l) (M:=W.heap.size) d (fun b hb=>bH (sA.heap.ghlt b hb) d.size) (fun b ⟨i,hi,hb⟩=>sA.heap.ghne i b hi hb) sA.heap⟩;obtain⟨⟨ms,m1,m2,m3⟩,_,m4,m5⟩:=sA.defers;refine⟨⟨ms,m1,m2,fun k hk=>⟨?_,(m3 k hk).2⟩⟩,fun l' e=>by cases e; exact⟨_,hlb⟩,m4,bG m5 d.size⟩;rw[hWb];exact Ĭ T k _ (m3 k hk).1 (.inr fun e=>by have hk0:=(m3 k hk).1; rw[e,T] at hk0; cases hk0)
  have hgo2:=lX hE R Bd x.bid _ _ Y _ Wb (fun _=>hD) (fun z hz=>hLr z (bY _ hz)) kA sB lnA;refine wpIn_mono (show Bd.wpIn (Fence.wide.inRound l) 0 E.P _ _ Wb from hgo2) fun e aC WC hC=>?_;obtain⟨νC,SC,sC,m,lnC,ddC,L⟩:=hC
  cases e with
  |normal =>
   simp only at L
   split at L<;>try (cases L; done)
   rename_i p' Z hm;obtain⟨hp',L⟩:=Qb L;subst hp';obtain⟨V,sD,evD,lnD,ddD⟩:=jQ _ _ _ _ _ _ _ νC aC WC hm sC;have I:WC.heap[l]?=some (.loop _):=sB.heap.nd m l _ hlb rfl;have hrun:=run_endRound (P:=E.P) none I;obtain⟨K,c⟩:∃K,K=WC.putObj l (.loop {state:=.ready,pending:=none,fn:=J,tmps:=a.tmps,params:=ps,assign:=A,body:=Bd,defers:=dn}):=⟨_,rfl⟩;refine⟨_,K,by rw[c]; exact hrun,rfl,?_⟩;have hWs:W.heap.size<=WC.heap.size:=bG j.size (bG d.size m.size)
   have s4:K.heap.size=WC.heap.size:=by rw[c]; simp
   have h4l:K.heap[l]?=some (.loop {state:=.ready,pending:=none,fn:=J,tmps:=a.tmps,params:=ps,assign:=A,body:=Bd,defers:=dn}):=by rw[c]; exact World.putObj_heap_same (Õ I)
   have h4o:∀b,b≠l->K.heap[b]?=WC.heap[b]?:=fun b hb=>by rw[c]; exact World.putObj_heap_other hb
   have hbo:∀b,b≠l->Wb.heap[b]?=WA.heap[b]?:=fun b hb=>by rw[hWb]; exact World.putObj_heap_other hb
   have U:∀b,b<W.heap.size->¬jG ν' S.h b->K.heap[b]?=W.heap[b]?/\¬jG V (Ý x.head x.cs x.vs p' Z).h b:=fun b hb hn=>by
    obtain⟨k1,k2⟩:=j.keep b hb hn;obtain⟨k3,k4⟩:=m.keep b (bH hb (bG j.size d.size)) k2;obtain⟨k5,k6⟩:=evD.keep b (bH hb hWs) k4;refine⟨?_,k6⟩
    by_cases hbl:b=l
    ·rw[hbl,h4l,hl]
    ·rw[h4o b hbl,k3,hbo b hbl,k1]
   obtain⟨us,hus⟩:=Na V (Ý x.head x.cs x.vs p' Z).h
   have o4:K.os=W.os/\K.tape=W.tape/\K.output=W.output:=by
    rw[c];exact⟨m.os.trans (d.os.trans j.os),m.tape.trans (d.tape.trans j.tape),m.output.trans (d.output.trans j.output)⟩
   have KG4:Ū gr V (Ý x.head x.cs x.vs p' Z).h WC (fun k=>((X k/\¬O k)\/ć (.agg us) k)/\¬ć (.agg us) k/\k<K.heap.size) K:=by
    refine⟨by rw[c]; rfl,by rw[c]; rfl,by rw[c]; rfl,dA s4.symm,fun b hb hn hx=>?_,fun b o hb ho _=>?_,fun b o hb ho hlt=>?_,fun hΦ b hb=>by rw[c]; exact xu I hΦ b hb⟩
    ·obtain⟨hx1,hx2,_⟩:=hx;obtain⟨hx3,hx4⟩:=hx1.resolve_right hx2;refine hn (.inr ?_);show GX b;rw[hGX]; exact⟨hx3,hx4,hXs b hx3⟩
    ·rw[c]; exact Ĭ I b o hb (.inl ho)
    ·rw[c]; exact Ĭ I b o hb (.inr fun e=>by have:b<g.B:=hlt; omega)
   refine⟨o4.1,o4.2.1,o4.2.2,by rw[s4]; exact hWs,us,fun b hb hn=>?_,fun b hb=>?_,?_⟩
   ·obtain⟨k1,k2⟩:=U b hb fun hL=>hn ((q3 b).2 hL);exact⟨k1,fun q=>k2 ((hus b).1 q)⟩
   ·obtain⟨o,k1,k2⟩:=sD.heap.dat ((hus b).1 hb);exact⟨o,by rw[c]; exact Ĭ I b o k1 (.inl k2),k2⟩
   ·refine⟨o4.1.trans e1,o4.2.1.trans e2,o4.2.2.trans e3,bG e4 (by rw[s4]; exact hWs),fun k o hk ho=>?_,V,Z,n,by rw[q1,bM]; rfl,L,hus,?_,fun i=>?_,fun b hb hn=>?_,fun id hid=>?_,?_⟩
    ·by_cases hkl:k=l
     ·rw[hkl] at hk ⊢;rw[h4l,<-hl1,hk]
     ·rw[h4o k hkl];have k1:=H0.nd j k o (e5 k o hk ho) ho;have k2:Wb.heap[k]?=some o:=(hbo k hkl).trans k1;exact sB.heap.nd m k o k2 ho
    ·exact HR.step (g:=gr) (D:=[]) (Q:=none) (M:=0) KG4 (fun b hb=>hb.2.2) (fun b hl hb=>hb.2.1 ((hus b).2 hl)) sD.heap
    ·have hs3:st3 x.pin (lk t1 i)=true:=by
      rw[<-hSt,hS];exact MN rfl _ (hst p' v') i
     have v1:VR ν' S.h W (lk t1 i) (a.tmps.getD i undef):=by rw[<-hSt]; exact V0 i
     have v2:=VR.stab j hs3 v1;have v3:VR Y SA.h Wb (lk t1 i) (a.tmps.getD i undef):=VR.step (g:=gr) (D:=[]) (Q:=some l) (M:=W.heap.size) d v2;have v4:=VR.stab evD hs3 (VR.stab m hs3 v3);exact VR.step (g:=gr) (D:=[]) (Q:=none) (M:=0) KG4 v4
    ·exact(U b (bH hb e4) (q6 b hb hn)).2
    ·exact Blk.next_trans (Blk.next_trans (Blk.next_trans (q7 id hid) (j.blk id hid)) (m.blk id hid)) (evD.blk id hid)
    ·exact((q8.trans ddA (bt _)).trans ddC (bt _)).trans ddD (bt _)
  |exit id=>cases L
  |goto l=>cases L
  |ret=>cases L
  |panic ch=>cases L
  |outgrown=>cases L
 |exit id=>cases kA
 |goto l=>cases kA
 |ret=>cases kA
 |panic ch=>cases kA
 |outgrown=>cases kA
def FF (T:Tpl) (cs vs:AS Ty) (p:Val (tyL cs)) (v:Val (tyL vs)):(Ý T cs vs p v).h.length=T.heap.length:=by
 letI:É:=Gh fun _=>False
 unfold Ý;exact kv _ _
def LP {E:Env ρ} {N:Nat} {call:AS Nat->Bool->Nat->AS AV->AS Blk->(AV->AS Blk->AN ρ)->AN ρ} (hEnv:∀[É],ř E->ψ E N call) (hDraw:∀[É],ψ E N call->jD E N call) (hpath:x.path.length+2=N) (hy:@ř _ g ρ E)
 {gop:Operand} {ps:Array Tmp} {A Bd:Code} (hL:∀[É],ř E->∀z∈Ò x.bid A++Ò x.bid Bd,fq E x.path x.fid z.1 z.2)
 (hit:Gp E.P x.it) (htm:∀p v v',(Ý x.head x.cs x.vs p v').t=(Ý x.head x.cs x.vs p v).t) (hst:∀p v,(Ý x.head x.cs x.vs p v).t.all (st3 x.pin)=true)
 (law:∀p v y (kn:Val (tyL x.cs)->Val (tyL x.vs)->AN ρ),Iq E call x.fid x.path x.pin x.bid (.rf gop ps A Bd) (Ý x.head x.cs x.vs p v) (enc x.it.et y) (fun S=>match jl x.head x.pin x.cs x.vs S with
  |some (p,v)=>kn p v
  |none=>none)=x.bF p v y (kn p)) (hps:∃p0,ps.toList=[p0])
 (hplain : ∀ (f : Nat) (fn : Func), E.P.funcs[f]? = some fn -> (fn.name == "runtime.NumGoroutine") = false)
 {m:Nat} {S:St} {K:Exit->St->AN ρ} {r:ρ} {ν:Nat->Value} {a:Act} {w:World} (e:rngK x m (ev S.t gop) S K=some r) (H:@Sim _ g ν S a w) (hm:m<=S.h.length) :
 (Code.rangeFunc gop ps A Bd).wpIn (@fen _ g) 0 E.P (@Gv _ g ρ m ν S.h w K r) a w:=by
 obtain⟨p0,hps⟩:=hps;unfold rngK at e
 split at e<;>try (cases e; done)
 rename_i hmp;have hmp:m<=x.pin:=ca hmp
 split at e<;>try (cases e; done)
 rename_i c id hg
 split at e<;>try (cases e; done)
 rename_i hcm;obtain rfl:=bD hcm
 split at e<;>try (cases e; done)
 rename_i cs hl
 split at e<;>try (cases e; done)
 rename_i hchk;simp only[bu] at hchk;obtain⟨hown,hnr⟩:=hchk
 split at e<;>try (cases e; done)
 rename_i d hd
 split at e<;>try (cases e; done)
 rename_i p v hmt;simp only[Â] at e
 split at e<;>try (cases e; done)
 rename_i xs hxs
 -- the iterator
 have hH:=@Sim.heap _ g _ _ _ _ H;have hbid:=@HR.blk _ g _ _ _ hH id;rw[hl] at hbid;obtain⟨b0,cb,te,hν,hb0,hcells⟩:=hbid;have hgv:@VR _ g ν S.h w (ev S.t gop) (a.eval gop):=@ù _ g _ _ _ _ H gop;rw[hg] at hgv;obtain⟨fs,cps,hge,hfs,hcps⟩:=hgv
 have hfs0:fs=#[]:=by rw[<-bT]; exact hfs.nil_left
 obtain⟨uc,hu1,hu2⟩:=hcps.one
 have huc:uc=.pointer (some ⟨b0,0,none⟩):=by
  obtain⟨_,b',_,q1,q2⟩:=hu2;rw[hν] at q1; cases q1; exact q2
 have hcps0:cps=#[.pointer (some ⟨b0,0,none⟩)]:=by rw[<-bT,hu1,huc]
 rw[hfs0,hcps0] at hge
 -- the box is let go
 obtain⟨h0,hh0⟩:∃h0,h0=Ú S.h id .dead:=⟨_,rfl⟩;have hid:id<S.h.length:=Ģ hl (by simp)
 letI g1:É:=g.re (nq g b0) g.D g.Q g.M
 have H1:HR ν h0 w:=by rw[hh0]; exact Nv hl hν hnr hH
 have sim1:Sim ν {t:=S.t.map (clr id),h:=h0} a w:=by
  refine⟨@Sim.defers _ g _ _ _ _ H,by rw[List.length_map]; exact @Sim.len _ g _ _ _ _ H,fun i=>?_,H1⟩;show VR ν h0 w (lk (S.t.map (clr id)) i) _;rw[MM rfl,hh0];unfold clr
  split
  ·exact Nu hl hν ‹_› (@Sim.tmps _ g _ _ _ _ H i)
  ·trivial
 rw[<-hh0] at hmt;obtain⟨ν1,sim2,ev1,hp1,dd1⟩:=jQ _ _ _ _ _ _ _ ν a w hmt sim1;obtain⟨S1,hS1⟩:∃S1,S1=Ý x.head x.cs x.vs p v:=⟨_,rfl⟩;rw[<-hS1] at sim2 ev1 hp1 dd1
 have hlen:∀v,x.pin<=(Ý x.head x.cs x.vs p v).h.length:=fun v'=>by rw[FF,<-FF x.head x.cs x.vs p v,<-hS1]; exact hp1
 have L01:∀b,jG ν1 S1.h b->jG ν h0 b:=fun b hb=>Classical.byContradiction fun hn=>(ev1.keep b (sim2.heap.lt hb) hn).2 hb
 have L0:∀b,jG ν h0 b->jG ν S.h b/\b≠b0:=fun b ⟨j,hj,ho⟩=>by
  rw[hh0,kq] at hj
  split at hj
  ·cases hj
  ·rename_i hne;refine⟨⟨j,hj,ho⟩,fun eb=>hne ⟨?_,hid⟩⟩;exact @HR.inj _ g _ _ _ hH j id b hj (by rw[hl]; rfl) ho (by rw[hν,eb]; rfl)
 have hb0L:jG ν S.h b0:=⟨id,by rw[hl]; rfl,by rw[hν]; rfl⟩
 -- what is known of the frame
 have hfr:=@Sim.defers _ g _ _ _ _ H;have hgBw:g.B<=w.heap.size:=bG hfr.2.2.1 hfr.2.2.2;refine wpIn_rangeFunc ?_;intro fn hfn
 -- the record
 obtain⟨l,marks,dn,W1,henter,hl1,hlw,hW1s,hW1o,hW1d,hmarks⟩:∃(l:Nat) (marks:AS Nat) (dn:Nat) (W1:World),(Instr.enterLoop fn a.tmps ps A Bd (@fen _ g).round).run E.P w=.ok (l,marks.map mk1) W1 /\
  W1.heap[l]?=some (.loop {state:=.ready,pending:=none,fn:=fn,tmps:=a.tmps,params:=ps,assign:=A,body:=Bd,defers:=dn})/\w.heap.size<=l/\w.heap.size<=W1.heap.size/\(W1.os=w.os/\W1.tape=w.tape/\W1.output=w.output)/\(∀b,b<w.heap.size->W1.heap[b]?=w.heap[b]?) /\
  (marks.Nodup/\∀k∈marks,W1.heap[k]?=some (.deferred (some []))/\w.heap.size<=k):=by
  have hro:(@fen _ g).round=g.Q:=rfl;rw[hro]
  cases hQ:g.Q with
  |none =>
   refine⟨w.heap.size+1,[w.heap.size],w.heap.size,_,run_enterLoop_outer _ _ _ _ _,?_,by omega,by simp; omega,⟨rfl,rfl,rfl⟩,fun b hb=>?_,by simp,fun k hk=>?_⟩
   ·have:=World.alloc_heap_new (w.alloc (.deferred (some []))) (.loop {state:=.ready,pending:=none,fn:=fn,tmps:=a.tmps,params:=ps,assign:=A,body:=Bd,defers:=w.heap.size})
    rwa [World.size_alloc] at this
   ·rw[RowKit.Below.heap_alloc _ _ _ (by simp; omega),RowKit.Below.heap_alloc _ _ _ hb]
   ·rw[bE.1 hk];exact⟨(RowKit.Below.heap_alloc _ _ _ (by simp)).trans (World.alloc_heap_new w _),bt _⟩
  |some l0 =>
   obtain⟨r0,hr0⟩:=hfr.2.1 l0 hQ;refine⟨w.heap.size,[],r0.defers,_,run_enterLoop_inner hr0 _ _ _ _ _,World.alloc_heap_new _ _,bt _,by simp,⟨rfl,rfl,rfl⟩,fun b hb=>RowKit.Below.heap_alloc _ _ _ hb,du,fun k hk=>by cases hk⟩
 obtain⟨hmn,hmk⟩:=hmarks;have hlW1:l<W1.heap.size:=Õ hl1;have hold:∀(b:Nat) (o:Obj),w.heap[b]?=some o->W1.heap[b]?=some o:=fun b o hb=>(hW1d b (Õ hb)).trans hb
 -- what the loop's body gets
 obtain⟨us0,hus0⟩:=Na ν1 S1.h;obtain⟨Kf,hKf⟩:∃Kf:Val (tyL x.vs)->AN ρ,Kf=fun v=>K .normal (bif Nat.blt id x.pin then {t:=(Ý x.head x.cs x.vs p v).t,h:=Ú (Ý x.head x.cs x.vs p v).h id (.cells (flat x.it.ct d))} else Ý x.head x.cs x.vs p v):=⟨_,rfl⟩;rw[<-hKf] at e;have htl:S1.t.length<=a.tmps.size:=sim2.len
 letI gp:É:=⟨g.G,[],none,W1.heap.size,l,W1.heap.size,x.it.et,RJ g x ν S.h p xs Kf r ν1 S1.h a S1.t W1,fun O X X' pre W W' hJ hS=>RJ.st (bG hgBw hW1s) hJ hS⟩
 have hgl:g.B<=l:=bG hgBw hlw;have hgB1:g.B<=W1.heap.size:=bG hgBw hW1s;have hyp:@YldP _ gp E.P ⟨x.it.et,xs,false⟩:=⟨rfl,fun O X pre y u W hJ hOX hXs hpre hcr hB=>RJ.round hEnv hDraw hpath hy hps hL hit.agg htm hst hlen law hl1 hgl hgB1 ⟨v,by rw[hS1]⟩ htl hJ hOX hXs hpre hcr⟩
 -- the iterator's state
 obtain⟨νp,hνp⟩:∃νp:Nat->Value,νp=fun n=>if n=0 then .agg us0 else if n=1 then .pointer (some ⟨b0,0,none⟩) else undef:=⟨_,rfl⟩
 have n0:νp 0=.agg us0:=by rw[hνp]; rfl
 have n1:νp 1=.pointer (some ⟨b0,0,none⟩):=by rw[hνp]; rfl
 have Lp:∀k,jG νp (θ x.it d) k->ć (.agg us0) k\/k=b0:=by
  rintro k ⟨i,hi,ho⟩
  match i,hi,ho with
  |0,_,ho=>rw[n0] at ho; exact .inl ho
  |1,_,ho=>rw[n1] at ho; cases ho; exact .inr rfl
  |i+2,hi,_=>cases hi
 have OL:∀k,ć (.agg us0) k->jG ν S.h k/\k≠b0:=fun k hk=>L0 k (L01 k ((hus0 k).1 hk))
 have Avp:∀k,@Av _ gp νp (θ x.it d) k->@Av _ g ν S.h k:=fun k hk=>by
  rcases hk with hk|hk
  ·rcases Lp k hk with hk|rfl
   ·exact .inl (OL k hk).1
   ·exact .inl hb0L
  ·exact .inr hk
 have hcr0:CR w (@Av _ g ν S.h) x.it.ct d cb.toList:=ü hd (ä.mono (fun _ _ hx=>@VR1.data _ g _ _ _ _ _ hx.1) hcells);have hcr1:CR W1 (@Av _ gp νp (θ x.it d)) x.it.ct d cb.toList:=CR.kx ⟨hW1s,fun b _ hn hx=>hn (Avp b hx),fun b o hb _ _=>hold b o hb⟩ hcr0
 have hJ0:RJ g x ν S.h p xs Kf r ν1 S1.h a S1.t W1 (ć (νp 0)) (@Av _ gp νp (θ x.it d)) [] W1:=by
  have KG:Ū g1 ν1 S1.h w (fun k=>@Av _ gp νp (θ x.it d) k/\¬ć (νp 0) k/\k<W1.heap.size) W1:=by
   refine⟨hW1o.1,hW1o.2.1,hW1o.2.2,hW1s,fun b hb hn hx=>?_,fun b o hb _ _=>hold b o hb,fun b o hb _ _=>hold b o hb,fun hΦ b hb=>hW1d b (by obtain⟨o,h1,_⟩:=Globs.dat w hΦ b hb; exact Õ h1)⟩;obtain⟨hx1,hx2,_⟩:=hx;rcases hx1 with hx1|hx1
   ·rcases Lp b hx1 with q|rfl
    ·rw[n0] at hx2; exact hx2 q
    ·exact hn (.inr (.inr rfl))
   ·exact hn (.inr (.inl hx1))
  refine⟨rfl,rfl,rfl,bt _,fun _ _ q _=>q,ν1,v,xs,rfl,e,fun k=>by rw[n0,<-hS1]; exact hus0 k,?_,fun i=>?_,fun b _ hn hL2=>?_,fun i _=>?_,?_⟩
  ·rw[<-hS1];exact HR.step (g:=g1) (D:=[]) (Q:=none) (M:=0) KG (fun b hb=>hb.2.2) (fun b hl2 hb=>hb.2.1 (by rw[n0]; exact(hus0 b).2 hl2)) (@Sim.heap _ g1 _ _ _ _ sim2)
  ·rw[<-hS1];exact VR.step (g:=g1) (D:=[]) (Q:=none) (M:=0) KG (@Sim.tmps _ g1 _ _ _ _ sim2 i)
  ·rw[<-hS1] at hL2;exact hn (L0 b (L01 b hL2)).1
  ·rw[<-hS1]; exact Blk.next_refl _ _ _
  ·rw[<-hS1]; exact Dd.refl _ _
 have Hp:@HR _ gp νp (θ x.it d) W1:=by
  refine @HR.mk _ gp _ _ _ (fun i=>?_) (fun i j b hi hj hbi hbj=>?_) (fun b hb=>bH (@HR.ghlt _ g _ _ _ hH b hb) hW1s) (fun i b hi hbi hg=>?_) (Globs.keep _ _ (@HR.glob _ g _ _ _ hH) fun b hb=>hW1d b (by obtain⟨o,h1,_⟩:=Globs.dat w (@HR.glob _ g _ _ _ hH) b hb; exact Õ h1)) (fun b hb hL=>by
   rcases Lp b hL with q|rfl
   ·exact @HR.globL _ g _ _ _ hH b hb (OL b q).1
   ·exact @HR.globL _ g _ _ _ hH b hb hb0L)
  ·match i with
   |0 =>
    refine⟨us0,n0,fun b hb=>?_,rfl,hJ0⟩;rw[n0] at hb;obtain⟨o,q1,q2⟩:=@HR.dat _ g _ _ _ hH b (OL b hb).1;exact⟨o,hold b o q1,q2⟩
   |1=>exact⟨b0,cb,te,n1,hold _ _ hb0,@fQ _ gp νp (θ x.it d) W1 _ _ _ hcr1⟩
   |i+2=>exact trivial
  ·match i,j,hi,hj,hbi,hbj with
   |0,0,_,_,_,_=>rfl
   |1,1,_,_,_,_=>rfl
   |0,1,_,_,hbi,hbj=>rw[n0] at hbi; rw[n1] at hbj; cases hbj; exact absurd rfl (OL _ hbi).2
   |1,0,_,_,hbi,hbj=>rw[n1] at hbi; rw[n0] at hbj; cases hbi; exact absurd rfl (OL _ hbj).2
   |i+2,_,hi,_,_,_=>cases hi
   |_,j+2,_,hj,_,_=>cases hj
  ·have hg:g.G b:=hg;have key:∀k,jG ν S.h k->¬g.G k:=fun k ⟨j,hj,ho⟩=>@HR.ghne _ g _ _ _ hH j k hj ho
   match i,hi,hbi with
   |0,_,hbi=>rw[n0] at hbi; exact key b (OL b hbi).1 hg
   |1,_,hbi=>rw[n1] at hbi; cases hbi; exact key _ hb0L hg
   |i+2,hi,_=>cases hi
 have hargs:ä (@VR _ gp νp (θ x.it d) W1) I7 [.func (.yield l) #[] #[],.pointer (some ⟨b0,0,none⟩)]:=⟨rfl,⟨flat x.it.ct d,b0,rfl,n1,rfl⟩,trivial⟩;obtain⟨⟨gfn,gc,hgf,hgc⟩,hcall⟩:=hit.ok gp rfl d xs hxs hyp νp W1 _ (bt _) Hp hargs;refine⟨l,marks.map mk1,W1,{target:=.fn (.func x.it.clo) #[.pointer (some ⟨b0,0,none⟩)],args:=#[.func (.yield l) #[] #[]]},W1,x.it.clo,#[.func (.yield l) #[] #[],.pointer (some ⟨b0,0,none⟩)],W1,henter,?_,fun f' _=>trivial,?_,fun q=>(by cases q),?_⟩
 ·simp only[resolve,rangeCall,hge];simp[go_sem]
 ·simp[invoke,callFunc,Sem.run_bind,run_program,Result.andThen_ok,hgf,hgc,hplain x.it.clo gfn hgf];simpa using hplain x.it.clo gfn hgf
 refine CallsIn.mono (show CallsIn (@fen _ g) 0 E.P _ _ _ _ from hcall) fun en W2 hw=>?_;obtain⟨νq,hq,u,rfl,Hq,evq,hacc,csq,hcsq,hdq⟩:=hw
 -- what the loop leaves
 have hBq:=@HR.blk _ gp _ _ _ Hq 0;rw[hacc] at hBq;obtain⟨us2,k1,k2,k3,k4⟩:=hBq;have k4:RJ g x ν S.h p xs Kf r ν1 S1.h a S1.t W1 (ć (νq 0)) (@Av _ gp νq hq) xs W2:=k4;obtain⟨j1,j2,j3,j4,j5,νe,ve,suf,q1,q2,q3,q4,q5,q6,q7,q8⟩:=k4
 have hsuf:suf=[]:=by
  have:=congrArg List.length q1;rw[bz] at this;exact bL.1 (by omega)
 rw[hsuf] at q2;have hke:Kf ve=some r:=q2;have hl2:W2.heap[l]?=_:=j5 l _ hl1 rfl;obtain⟨W3,hW3⟩:∃W3,W3=W2.putObj l (.loop {state:=.exhausted,pending:=none,fn:=fn,tmps:=a.tmps,params:=ps,assign:=A,body:=Bd,defers:=dn}):=⟨_,rfl⟩;refine⟨none,W3,by rw[hW3]; exact run_endLoop (P:=E.P) hl2 (by simp),?_⟩;obtain⟨Se,hSe⟩:∃Se,Se=Ý x.head x.cs x.vs p ve:=⟨_,rfl⟩;rw[<-hSe] at q3 q4 q5 q6 q7 q8
 have s3:W3.heap.size=W2.heap.size:=by rw[hW3]; simp
 have h3o:∀b,b≠l->W3.heap[b]?=W2.heap[b]?:=fun b hb=>by rw[hW3]; exact World.putObj_heap_other hb
 have hG:∀b,g.G b->@Av _ gp νq hq b/\¬ć (νq 0) b/\b<W2.heap.size:=fun b hb=>⟨.inr hb,fun ho=>@HR.ghne _ gp _ _ _ Hq 0 b (by rw[hacc]; rfl) ho hb,@HR.ghlt _ gp _ _ _ Hq b hb⟩;obtain⟨G2,hG2⟩:∃G2:Nat->Prop,G2=fun k=>@Av _ gp νq hq k/\¬ć (νq 0) k/\k<W2.heap.size:=⟨_,rfl⟩;rw[<-hG2] at q4 q5
 have hGs:∀b,g.G b->G2 b:=fun b hb=>by rw[hG2]; exact hG b hb
 have KG3:Ū (g.re G2 [] none 0) νe Se.h W2 G2 W3:=by
  refine⟨by rw[hW3]; rfl,by rw[hW3]; rfl,by rw[hW3]; rfl,dA s3.symm,fun b _ hn hb=>hn (.inr hb),fun b o hb ho _=>?_,fun b o hb ho hlt=>?_,fun hΦ b hb=>by rw[hW3]; exact xu hl2 hΦ b hb⟩
  ·rw[hW3]; exact Ĭ hl2 b o hb (.inl ho)
  ·rw[hW3]; exact Ĭ hl2 b o hb (.inr fun q=>by have:b<g.B:=hlt; omega)
 have H3:@HR _ (g.re G2 [] none 0) νe Se.h W3:=HR.step (g:=g.re G2 [] none 0) (D:=[]) (Q:=none) (M:=0) KG3 (fun b hb=>by rw[hG2] at hb; have:=hb.2.2; omega) (fun b hb hg=>by rw[hG2] at hg; exact hg.2.1 ((q3 b).2 hb)) q4;have nd3:∀(k:Nat) (o:Obj),W1.heap[k]?=some o->wH o=false->k≠l->W3.heap[k]?=some o:=fun k o hk ho hkl=>(h3o k hkl).trans (j5 k o hk ho)
 have hSt:Se.t=S1.t:=by rw[hSe,hS1]; exact htm p v ve
 have V3:∀i,@VR _ (g.re G2 [] none 0) νe Se.h W3 (lk Se.t i) (a.tmps.getD i undef):=fun i=>by rw[hSt]; exact VR.step (g:=g.re G2 [] none 0) (D:=[]) (Q:=none) (M:=0) KG3 (q5 i)
 have hfr3:@Fr _ g W3 (marks.map mk1++a.defers):=by
  obtain⟨⟨ms,m1,m2,m3⟩,m4,m5,m6⟩:=hfr;have lt3:∀k∈ms,k<w.heap.size:=fun k hk=>Õ (m3 k hk).1;refine⟨⟨marks++ms,?_,?_,fun k hk=>?_⟩,fun l' hl'=>?_,m5,by omega⟩
  ·rw[m1,fh,bM]
  ·refine eQ.2 ⟨hmn,m2,fun k1 h1 k2 h2 q=>?_⟩;have:=(hmk k1 h1).2;have:=lt3 k2 h2;omega
  ·rcases bw.1 hk with hk|hk
   ·obtain⟨z1,z2⟩:=hmk k hk;exact⟨nd3 k _ z1 rfl (fun q=>by rw[q,hl1] at z1; cases z1),bG m6 z2⟩
   ·exact⟨nd3 k _ (hold _ _ (m3 k hk).1) rfl (fun q=>by have:=lt3 k hk; omega),(m3 k hk).2⟩
  ·obtain⟨r',hr'⟩:=m4 l' hl';exact⟨r',nd3 l' _ (hold _ _ hr') rfl (fun q=>by have:=Õ hr'; omega)⟩
 have ple:x.pin<=Se.h.length:=by rw[hSe]; exact hlen ve
 have blk3:∀i,i<m->i≠id->(lkB S.h i).next ν νe i (lkB Se.h i):=fun i hi hne=>by
  have z1:lkB h0 i=lkB S.h i:=by rw[hh0]; exact È _ hne
  have z2:=ev1.blk i (bH hi hmp);rw[z1] at z2;exact Blk.next_trans z2 (q7 i (bH hi hmp))
 have dd3:∀j,j<m->lkB S.h j=.dead->j≠id/\lkB Se.h j=.dead:=fun j hj hd2=>by
  have hne:j≠id:=fun q=>by rw[q,hl] at hd2; cases hd2
  have z1:lkB h0 j=.dead:=by rw[hh0,È _ hne]; exact hd2
  exact⟨hne,q8 j (by omega) (dd1 j (by omega) z1)⟩
 have keep3:∀b,b<w.heap.size->¬jG ν S.h b->W3.heap[b]?=w.heap[b]?:=fun b hb hn=>by
  rw[h3o b (by omega),(evq.keep b (by omega) fun hL2=>?_).1,hW1d b hb];rcases Lp b hL2 with q|rfl
  ·exact hn (OL b q).1
  ·exact hn hb0L
 have oss:W3.os=w.os/\W3.tape=w.tape/\W3.output=w.output:=by
  rw[hW3];exact⟨j1.trans hW1o.1,j2.trans hW1o.2.1,j3.trans hW1o.2.2⟩
 have sz3:w.heap.size<=W3.heap.size:=by omega
 rw[hKf] at hke;simp only[<-hSe] at hke
 by_cases hip:id<x.pin
 ·-- the box is there again
  have hbt:Nat.blt id x.pin=true:=eZ hip;rw[hbt] at hke;have hd0:lkB Se.h id=.dead:=q8 id hip (dd1 id hip (by rw[hh0]; exact Ð _ hid));have hidl:id<Se.h.length:=bH hip ple;have hq1:=evq.blk 1 (by omega)
  have hν1:νq 1=.pointer (some ⟨b0,0,none⟩):=by
   have:(lkB (θ x.it d) 1)=.cells (flat x.it.ct d):=rfl;rw[this] at hq1;exact hq1.2.trans n1
  have hq1b:=@HR.blk _ gp _ _ _ Hq 1;rw[hcsq] at hq1b;obtain⟨b1,c1,e1',z1,z2,z3⟩:=hq1b;rw[hν1] at z1;cases z1
  have lv1:(lkB hq 1).live=true:=by rw[hcsq]; rfl
  have lv0:(lkB hq 0).live=true:=by rw[hacc]; rfl
  have own1:ć (νq 1) b0:=by rw[hν1]; rfl
  have hb02:G2 b0:=by
   rw[hG2];exact⟨.inl ⟨1,lv1,own1⟩,fun q=>absurd (@HR.inj _ gp _ _ _ Hq 0 1 b0 lv0 lv1 q own1) (by omega),Õ z2⟩
  have hgb:¬g.G b0:=fun q=>@HR.ghne _ g _ _ _ hH id b0 (by rw[hl]; rfl) (by rw[hν]; rfl) q
  have hlb:b0≠l:=fun q=>by rw[q,hl2] at z2; cases z2
  have hw3:W3.heap[b0]?=some (.cells c1 e1' (0,0)):=(h3o b0 hlb).trans z2;have hcr2:CR W2 (@Av _ gp νq hq) x.it.ct d c1.toList:=ü hdq (ä.mono (fun _ _ hx=>@VR1.data _ gp _ _ _ _ _ hx.1) z3)
  have hcr3:CR W3 (@Av _ (g.re g.G g.D g.Q g.M) (Ü νe id (.pointer (some ⟨b0,0,none⟩))) (Ú Se.h id (.cells (flat x.it.ct d)))) x.it.ct d c1.toList:=by
   refine CR.kx ⟨dA s3.symm,fun b _ hn hx=>hn ?_,fun b o hb ho _=>by rw[hW3]; exact Ĭ hl2 b o hb (.inl ho)⟩ hcr2;rcases hx with⟨j,hj,ho⟩|hx
   ·by_cases q:j=id
    ·rw[q,Ç] at ho; cases ho; exact .inl ⟨1,lv1,own1⟩
    ·rw[È _ q] at hj; rw[ê _ _ q] at ho;exact .inl ⟨0,lv0,(q3 b).2 ⟨j,hj,ho⟩⟩
   ·exact .inr hx
  have hrE:=N8 (g:=g) (D:=g.D) (Q:=g.Q) (M:=g.M) hd0 hidl hGs hb02 hgb (fun q=>@HR.globL _ g _ _ _ hH b0 q hb0L) hw3 (@fQ _ (g.re g.G g.D g.Q g.M) _ _ _ _ _ _ hcr3) H3;refine⟨_,_,@Sim.mk _ g _ _ _ _ hfr3 (by show Se.t.length<=_; rw[hSt]; exact htl) (fun i=>N7 (g:=g) (D:=g.D) (Q:=g.Q) (M:=g.M) hd0 hidl hGs hb02 (V3 i)) (HR.er hrE),⟨oss.1,oss.2.1,oss.2.2,sz3,fun b hb hn=>⟨keep3 b hb hn,?_⟩,fun i hi=>?_⟩,?_,fun j hj hd2=>?_,hke⟩
  ·rintro⟨j,hj,ho⟩
   by_cases q:j=id
   ·rw[q,Ç] at ho; cases ho; exact hn hb0L
   ·have hj:(lkB (Ú Se.h id (.cells (flat x.it.ct d))) j).live=true:=hj;rw[È _ q] at hj; rw[ê _ _ q] at ho;exact q6 b (by omega) hn ⟨j,hj,ho⟩
  ·show(lkB S.h i).next ν _ i (lkB (Ú Se.h id (.cells (flat x.it.ct d))) i)
   by_cases q:i=id
   ·subst q;rw[Ð _ hidl,hl];exact⟨⟨_,rfl⟩,by rw[Ç,hν]⟩
   ·rw[È _ q];have z:=blk3 i hi q;have e:=ê νe (.pointer (some ⟨b0,0,none⟩)) q;revert z
    cases lkB S.h i<;>intro z
    ·trivial
    ·exact⟨z.1,e.trans z.2⟩
    ·obtain⟨g',fz,xs',y1,y2,y3⟩:=z;exact⟨g',fz,xs',y1,y2,fun y4=>⟨e.trans (y3 y4).1,(y3 y4).2⟩⟩
    ·exact⟨z.1,e.trans z.2⟩
    ·obtain⟨g',xs',y1,y2,y3⟩:=z;exact⟨g',xs',y1,y2,fun y4=>⟨e.trans (y3 y4).1,(y3 y4).2⟩⟩
    ·exact z
    ·exact⟨z.1,e.trans z.2⟩
  ·show m<=(Ú Se.h id (.cells (flat x.it.ct d))).length;rw[Ê]; omega
  ·obtain⟨hne,hde⟩:=dd3 j hj hd2;show lkB (Ú Se.h id (.cells (flat x.it.ct d))) j=.dead;rw[È _ hne]; exact hde
 ·have hbt:Nat.blt id x.pin=false:=by
   cases hq:Nat.blt id x.pin with
   |false=>rfl
   |true=>exact absurd (ca hq) hip
  rw[hbt] at hke;have KGl:Ū (g.re G2 [] none 0) νe Se.h W3 g.G W3:=Ū.less hGs;refine⟨νe,Se,@Sim.mk _ g _ _ _ _ hfr3 (by rw[hSt]; exact htl) (fun i=>VR.step (g:=g.re G2 [] none 0) (D:=g.D) (Q:=g.Q) (M:=g.M) KGl (V3 i)) (HR.step (g:=g.re G2 [] none 0) (D:=g.D) (Q:=g.Q) (M:=g.M) KGl (fun b hb=>by have:=(hG b hb).2.2; omega) (fun b hb hg=>(hG b hg).2.1 ((q3 b).2 hb)) H3),⟨oss.1,oss.2.1,oss.2.2,sz3,fun b hb hn=>⟨keep3 b hb hn,q6 b (by omega) hn⟩,fun i hi=>blk3 i hi (by omega)⟩,by omega,fun j hj hd2=>(dd3 j hj hd2).2,hke⟩
end
end
end Go.Am
end

noncomputable section
namespace Go.Am
variable [Globs] [É]
section
variable {ρ:Type} {ν ν':Nat->Value} {h h':AS Blk} {w w':World} {P:Program}
structure ō (ρ:Type) where
 path:AS Nat
 fid:Nat
 bid:Nat
 L:Ë
 bF:Val (tyL L.cs)->Val (tyL L.vs)->(Val (tyL L.vs)->AN ρ)->((i:Nat)->Val (tyL (L.zs i))->AN ρ)->AN ρ
def eqL:AS Nat->AS Nat->Bool
 |[],[]=>true
 |a::l,b::m=>Nat.beq a b&&eqL l m
 |_,_=>false
def KL (S:St):AS (ō ρ)->AS Nat->Nat->Nat->AN (ō ρ)
 |[],_,_,_=>none
 |x::l,path,fid,bid=>match Nat.beq x.bid bid&&(Nat.beq x.fid fid&&(eqL x.path path&&fitsS x.L S)) with
  |true=>some x
  |false=>KL S l path fid bid
def Ř (tab:AS (ō ρ)) (path:AS Nat) (fid bid m:Nat) (S:St) (K:Exit->St->AN ρ):AN ρ :=
 match KL S tab path fid bid with
 |some x=>GS x.L x.bF m S K
 |none=>none
structure JEnt where
 path:AS Nat
 fid:Nat
 rid:Nat
 pin:Nat
 tpl:Tpl
 vs:AS Ty
def findJ:AS JEnt->AS Nat->Nat->Nat->AN JEnt
 |[],_,_,_=>none
 |x::l,path,fid,rid=>match Nat.beq x.rid rid&&(Nat.beq x.fid fid&&eqL x.path path) with
  |true=>some x
  |false=>findJ l path fid rid
def Di (js:AS JEnt) (path:AS Nat) (fid rid m:Nat):AN (((St->AN ρ)->AN ρ)->(St->AN ρ)->AN ρ) :=
 match findJ js path fid rid with
 |some x=>match Nat.ble m x.pin with
  |true=>some fun body rest=>Ht (α:=Val (tyL x.vs)) (fun b=>body fun S=>match jl x.tpl x.pin [] x.vs S with
   |some (_,v)=>b v
   |none=>none) (fun v=>rest (Ý x.tpl [] x.vs () v))
  |false=>none
 |none=>none
def MX {E:Env ρ} {js:AS JEnt} (h:E.joins=Di js):Gn E:=by
 intro path fid rid m J e;rw[h] at e;unfold Di at e
 split at e<;>try (cases e; done)
 rename_i x k
 split at e<;>try (cases e; done)
 rename_i b;have b:m<=x.pin:=ca b;refine⟨fun S=>match jl x.tpl x.pin [] x.vs S with|some (_,v)=>some (Ý x.tpl [] x.vs () v)|none=>none,?_,?_⟩
 ·intro S o ν a w e H l;simp only at e
  split at e<;>try (cases e; done)
  rename_i p v c;cases e;obtain⟨ν',h1,h2,i,d⟩:=jQ _ _ _ _ _ _ _ ν a w c H;exact⟨ν',h1,h2.mono b,bG b i,fun j n hd=>d j (by omega) hd⟩
 ·intro body rest;cases e;simp only[Ht];congr 1;funext S
  split<;>simp_all
def AO:AS (Nat×Ğ)->Nat->AN Ğ
 |[],_=>none
 |x::l,f=>match Nat.beq x.1 f with
  |true=>some x.2
  |false=>AO l f
structure ō.Ok (E:Env ρ) (x:ō ρ):Prop where
 one:(((Υ E.P x.fid).elim [] (Ò 0)).filter fun y=>Nat.beq y.1 x.bid).length=1
 law:∀p v kn kx,goC E (Α E (10-x.path.length / 2)) x.fid x.path x.L.pin x.bid (wp (Υ E.P x.fid) x.bid) (Ý x.L.head x.L.cs x.L.vs p v) (J0 x.L kn kx)=x.bF p v (kn p) (fun i=>kx i p)
omit [É] in
def FV:∀{l m:AS Nat},eqL l m=true->l=m
 |[],[],_=>rfl
 |a::l,b::m,h=>by
  simp only[eqL,bu] at h;rw[bD h.1,FV h.2]
 |[],_::_,h=>by cases h
 |_::_,[],h=>by cases h
omit [É] in
def vw:∀{tab:AS (ō ρ)} {path:AS Nat} {fid bid:Nat} {S:St} {x:ō ρ},KL S tab path fid bid=some x->x∈tab/\x.path=path/\x.fid=fid/\x.bid=bid
 |[],_,_,_,_,_,h=>by cases h
 |y::tab,path,fid,bid,S,x,h=>by
  unfold KL at h
  split at h
  ·rename_i hb;simp only[bu] at hb;cases h;exact⟨by simp,FV hb.2.2.1,bD hb.2.1,bD hb.1⟩
  ·obtain⟨h1,h2⟩:=vw h;exact⟨by simp[h1],h2⟩
omit [É] in
def B7:∀{tab:AS (Nat×Ğ)} {f:Nat} {p:Ğ},AO tab f=some p->(f,p)∈tab
 |[],_,_,h=>by cases h
 |y::tab,f,p,h=>by
  unfold AO at h
  split at h
  ·rename_i hb;cases h;rw[<-bD hb]; simp
  ·exact dR _ (B7 h)
omit [É] in
def ĥ:∀(c:Code) (b0:Nat) {bid:Nat} {b:LI},(bid,b)∈Ò b0 c->∀y∈b.loops bid,y∈Ò b0 c
 |.seq c d,b0,bid,b,h,y,e=>by
  simp only[Ò,bw] at h ⊢;exact h.imp (fun h=>ĥ c b0 h y e) (fun h=>ĥ d b0 h y e)
 |.cond _ c d,b0,bid,b,h,y,e=>by
  simp only[Ò,bw] at h ⊢;exact h.imp (fun h=>ĥ c b0 h y e) (fun h=>ĥ d b0 h y e)
 |.block id c,b0,bid,b,h,y,e=>by
  simp only[Ò] at h ⊢;exact ĥ c id h y e
 |.loop c,b0,bid,b,h,y,e=>by
  simp only[Ò,bC,Prod.mk.injEq] at h ⊢;rcases h with⟨rfl,rfl⟩|h
  ·exact .inr e
  ·exact .inr (ĥ c b0 h y e)
 |.skip,_,_,_,h,_,_=>by cases h
 |.region ..,_,_,_,h,_,_=>by cases h
 |.exit _,_,_,_,h,_,_=>by cases h
 |.ret,_,_,_,h,_,_=>by cases h
 |.label _,_,_,_,h,_,_=>by cases h
 |.goto _,_,_,_,h,_,_=>by cases h
 |.rangeFunc g ps c d,b0,bid,b,h,y,e=>by
  simp only[Ò,bC,bw,Prod.mk.injEq] at h ⊢;rcases h with⟨rfl,rfl⟩|h|h
  ·exact .inr (bw.1 e)
  ·exact .inr (.inl (ĥ c b0 h y e))
  ·exact .inr (.inr (ĥ d b0 h y e))
 |.scope c,b0,bid,b,h,y,e=>by
  simp only[Ò] at h ⊢;exact ĥ c b0 h y e
 |.refuse _,_,_,_,h,_,_=>by cases h
def LI.sz:LI->Nat
 |.lp b=>SizeOf.sizeOf b
 |.rf _ _ a b=>SizeOf.sizeOf a+SizeOf.sizeOf b
omit [É] in
def ÿ:∀(c:Code) (b0:Nat) {bid:Nat} {b:LI},(bid,b)∈Ò b0 c->b.sz<SizeOf.sizeOf c
 |.seq c d,b0,bid,b,h=>by
  simp only[Ò,bw] at h;rcases h with h|h
  ·have:=ÿ c b0 h; simp; omega
  ·have:=ÿ d b0 h; simp; omega
 |.cond _ c d,b0,bid,b,h=>by
  simp only[Ò,bw] at h;rcases h with h|h
  ·have:=ÿ c b0 h; simp; omega
  ·have:=ÿ d b0 h; simp; omega
 |.block id c,b0,bid,b,h=>by
  have:=ÿ c id h; simp; omega
 |.loop c,b0,bid,b,h=>by
  simp only[Ò,bC,Prod.mk.injEq] at h;rcases h with⟨rfl,rfl⟩|h
  ·simp[LI.sz]
  ·have:=ÿ c b0 h; simp; omega
 |.skip,_,_,_,h=>by cases h
 |.region ..,_,_,_,h=>by cases h
 |.exit _,_,_,_,h=>by cases h
 |.ret,_,_,_,h=>by cases h
 |.label _,_,_,_,h=>by cases h
 |.goto _,_,_,_,h=>by cases h
 |.rangeFunc g ps c d,b0,bid,b,h=>by
  simp only[Ò,bC,bw,Prod.mk.injEq] at h;rcases h with⟨rfl,rfl⟩|h|h
  ·simp[LI.sz]; omega
  ·have:=ÿ c b0 h; simp; omega
  ·have:=ÿ d b0 h; simp; omega
 |.scope c,b0,bid,b,h=>by
  have:=ÿ c b0 h; simp; omega
 |.refuse _,_,_,_,h=>by cases h
def QU (E:Env ρ) (n:Nat):Prop:=∀[É],ř E->ψ E (22-2*n) (Α E n)
def vQ (E:Env ρ):Prop:=∀n,n<=10->QU E n->∀[É],ř E->∀(path:AS Nat) (f:Nat) (fn:Func) (c:Code),path.length+2=22-2*n->E.P.funcs[f]?=some fn->fn.body=some c->∀x∈Ò 0 c,fq E path f x.1 x.2
omit [É] in
def oF {c:Code} {bid:Nat} {b:LI} (i:((Ò 0 c).filter fun y=>Nat.beq y.1 bid).length=1) (m:(bid,b)∈Ò 0 c):qQ (some c) bid=b:=by
 have d:(bid,b)∈(Ò 0 c).filter fun y=>Nat.beq y.1 bid:=List.mem_filter.2 ⟨m,by simp⟩;obtain⟨z,l⟩:=List.length_eq_one_iff.1 i;rw[l,List.mem_singleton] at d;unfold qQ;simp only
 cases e:(Ò 0 c).find? fun y=>y.1==bid with
 |none =>
  have:=ci.1 e _ m;simp at this
 |some y =>
  have k:=List.mem_of_find?_eq_some e;have j:=List.find?_some e;have:y∈(Ò 0 c).filter fun y=>Nat.beq y.1 bid:=eh.2 ⟨k,by simpa using j⟩;rw[l,bE] at this;rw[this,<-d]
def Nk:AS (GB ρ)->AS Nat->Nat->Nat->AN (GB ρ)
 |[],_,_,_=>none
 |x::l,path,fid,bid=>match Nat.beq x.bid bid&&(Nat.beq x.fid fid&&eqL x.path path) with
  |true=>some x
  |false=>Nk l path fid bid
def gK (tab:AS (GB ρ)) (path:AS Nat) (fid bid m:Nat) (g:AV) (S:St) (K:Exit->St->AN ρ):AN ρ :=
 match Nk tab path fid bid with
 |some x=>rngK x m g S K
 |none=>none
omit [É] in
def B6:∀{tab:AS (GB ρ)} {path:AS Nat} {fid bid:Nat} {x:GB ρ},Nk tab path fid bid=some x->x∈tab/\x.path=path/\x.fid=fid/\x.bid=bid
 |[],_,_,_,_,h=>by cases h
 |y::tab,path,fid,bid,x,h=>by
  unfold Nk at h
  split at h
  ·rename_i hb;simp only[bu] at hb;cases h;exact⟨by simp,FV hb.2.2,bD hb.2.1,bD hb.1⟩
  ·obtain⟨h1,h2⟩:=B6 h;exact⟨by simp[h1],h2⟩
def J3:LI->Bool
 |.rf _ ps _ _=>match ps.toList with
  |[_]=>true
  |_=>false
 |_=>true
omit [É] in
def MD {E:Env ρ} (hmix:E.P.follows .mixedOrders=true) {tab:AS (ō ρ)} (X:E.loops=Ř tab) (U:∀x∈tab,x.Ok E) {rtab:AS (GB ρ)} (hR:E.ranges=gK rtab) (B:∀x∈rtab,x.Ok E) (R:∀x∈rtab,J3 (qQ (Υ E.P x.fid) x.bid)=true):vQ E:=by
 intro n hn k g0 l path f fn c hp hf hc
 have s:Υ E.P f=some c:=by simp only[Υ,hf,hc]
 have G:∀(N:Nat) (x:Nat×LI),x.2.sz<N->x∈Ò 0 c->∀[É],ř E->fq E path f x.1 x.2:=by
  intro N
  induction N with
  |zero=>intro x h; omega
  |succ N ih =>
   intro⟨bid,b⟩ hN u
   have F:∀y∈b.loops bid,y.2.sz<N:=fun y l=>by
    cases b with
    |lp b=>have:=ÿ b bid (bid:=y.1) (b:=y.2) l; simp only[LI.sz] at hN; omega
    |rf gop ps A Bd =>
     simp only[LI.sz] at hN;rcases bw.1 l with l|l
     ·have:=ÿ A bid (bid:=y.1) (b:=y.2) l; omega
     ·have:=ÿ Bd bid (bid:=y.1) (b:=y.2) l; omega
   have C:∀[É],ř E->∀y∈b.loops bid,fq E path f y.1 y.2:=fun I y l=>ih y (F y l) (ĥ c 0 u y l) I;intro g1 o
   cases b with
   |lp b =>
    intro m S K r ν a w e H V;rw[X] at e;unfold Ř at e
    cases j:KL S tab path f bid with
    |none =>
     rw[j] at e;cases e
    |some x =>
     obtain⟨h1,h2,Z,Y⟩:=vw j;obtain⟨i,d⟩:=U x h1;subst Z Y;rw[s] at i d;simp only[Option.elim] at i
     have hb:wp (some c) x.bid=b:=by unfold wp; rw[oF i u]
     rw[hb] at d
     have hd:10-x.path.length / 2=n:=by rw[h2]; omega
     rw[hd,h2] at d;rw[<-h2] at d;rw[j] at e;exact I2 (path:=x.path) jQ (k o) (gC hmix _ _ (k o)) (by rw[h2]; omega) (by rw[h2]; exact C o) x.L x.bF (fun p v kn kx=>d p v kn kx) e H V
   |rf gop ps A Bd =>
    intro m S K r ν a w e H V;rw[hR] at e;unfold gK at e
    cases j:Nk rtab path f bid with
    |none =>
     rw[j] at e;cases e
    |some x =>
     obtain⟨h1,h2,Z,Y⟩:=B6 j;obtain⟨i,W,J,O,d⟩:=B x h1;have q:=R x h1;subst Z Y;rw[s] at i d q;simp only[Option.elim] at i;rw[oF i u] at d q
     have hd:10-x.path.length / 2=n:=by rw[h2]; omega
     rw[hd] at d;rw[j] at e
     have T:∃p0,ps.toList=[p0]:=by
      simp only[J3] at q
      split at q
      ·exact⟨_,‹_›⟩
      ·cases q
     exact LP (x:=x) k (fun X=>gC hmix _ _ X) (by rw[h2]; omega) o (fun l z hz=>by rw[h2]; exact C l z hz) W J O d T (k o).plain e H V
 exact fun x u=>G _ x (eY _) u l
omit [É] in
def I0 {E:Env ρ} (hmix:E.P.follows .mixedOrders=true) {tab:AS (ō ρ)} (d:E.loops=Ř tab) (b:∀x∈tab,x.Ok E) (c:E.ranges=gK []):vQ E :=
 MD hmix d b c (fun _ h=>by cases h) (fun _ h=>by cases h)
structure Qg where
 path:AS Nat
 fid:Nat
 bid:Nat
 n:Nat
def PL:AS Qg->AS Nat->Nat->Nat->AN Qg
 |[],_,_,_=>none
 |x::l,path,fid,bid=>match Nat.beq x.bid bid&&(Nat.beq x.fid fid&&eqL x.path path) with
  |true=>some x
  |false=>PL l path fid bid
def I1 (b:Env ρ) (us:AS Qg) (path:AS Nat) (fid bid m:Nat) (S:St) (K:Exit->St->AN ρ):AN ρ :=
 match PL us path fid bid with
 |some u=>Co (fun S K=>goC b (Α b (10-u.path.length / 2)) u.fid u.path m u.bid (wp (Υ b.P u.fid) u.bid) S K) u.n S K
 |none=>b.loops path fid bid m S K
omit [É] in
def B5:∀{tab:AS Qg} {path:AS Nat} {fid bid:Nat} {x:Qg},PL tab path fid bid=some x->x∈tab/\x.path=path/\x.fid=fid/\x.bid=bid
 |[],_,_,_,_,h=>by cases h
 |y::tab,path,fid,bid,x,h=>by
  unfold PL at h
  split at h
  ·rename_i hb;simp only[bu] at hb;cases h;exact⟨by simp,FV hb.2.2,bD hb.2.1,bD hb.1⟩
  ·obtain⟨h1,h2⟩:=B5 h;exact⟨by simp[h1],h2⟩
def vU {E:Env ρ} {call:AS Nat->Bool->Nat->AS AV->AS Blk->(AV->AS Blk->AN ρ)->AN ρ} {N:Nat} (G:ψ E N call) (I:jD E N call) {fid bid m:Nat} {path:AS Nat} (s:path.length+2=N) {b:Code}
 (A:∀x∈Ò bid b,fq E path fid x.1 x.2) {K:Exit->St->AN ρ} {r:ρ} {q:AS Blk} {o:Nat->Value} {u:World}:∀(n:Nat) (S:St) (ν:Nat->Value) (a:Act) (w:World),Co (fun S K=>goC E call fid path m bid b S K) n S K=some r->Sim ν S a w->m<=S.h.length->Ev m o q u ν S.h w->Dd m q S.h ->
  Code.roundsIn fen 0 E.P b (Gv m o q u K r) n a w
 |0,S,ν,a,w,e,_,_,_,_=>by cases e
 |n+1,S,ν,a,w,e,H,J,ev,dd=>by
  rw[roundsIn_succ];simp only[Co] at e;refine wpIn_mono (jv G I s b bid S _ ν a w A e H J) fun x B z ha=>?_;obtain⟨c,j,y,C,k,F,v⟩:=ha;have d:=ev.trans C (bt m);have i:=dd.trans F (bt m)
  cases x with
  |normal=>exact vU G I s A n j c B z v y k d i
  |exit id=>exact⟨c,j,y,d,k,i,v⟩
  |ret=>exact⟨c,j,y,d,k,i,v⟩
  |goto l=>exact⟨c,j,y,d,k,i,v⟩
  |panic ch=>exact⟨c,j,y,d,k,i,v⟩
  |outgrown=>exact⟨c,j,y,d,k,i,v⟩
omit [É] in
def ME {E i:Env ρ} (l:∀[É],ř i->xc i) (B:i.P=E.P) (C:i.yld=none) (G:E.ranges=gK []) (hmix:i.P.follows .mixedOrders=true) (v:vQ i) {us:AS Qg} (J:E.loops=I1 i us)
 (s:∀u∈us,(((Υ E.P u.fid).elim [] (Ò 0)).filter fun y=>Nat.beq y.1 u.bid).length=1):vQ E:=by
 intro n I _ Z _ path f fn c N R T;have j:=mY l (fun L call J=>gC hmix L call J) v;have q:ř i:=gE C;have k:=j n I q;have o:jD i (22-2*n) (Α i n):=gC hmix _ _ k;have z:=v n I (j n I) q path f fn c N (B▸R) T
 have d:Υ E.P f=some c:=by simp only[Υ,R,T]
 intro⟨bid,b⟩ F
 cases b with
 |rf gop ps A Bd =>
  intro m S K r ν a w e;rw[G] at e;cases e
 |lp b =>
 intro m S K r ν a w e H O;rw[J] at e;unfold I1 at e
 split at e
 ·rename_i u Y;obtain⟨h1,h2,W,V⟩:=B5 Y
  have hd:10-u.path.length / 2=n:=by rw[h2]; omega
  have U:=s u h1;rw[W,V,d] at U
  have hb:wp (some c) bid=b:=by unfold wp; rw[oF U F]
  rw[hd,h2,W,V,B,d,hb] at e;have:=vU k o N (fun y X=>z y (ĥ c 0 F y X)) u.n S ν a w e H O (Ev.refl _ _ _ _) (Dd.refl _ _);rw[B] at this;exact wpIn_loop_rounds u.n this
 ·have:=z (bid,.lp b) F m S K r ν a w e H O
  rwa [B] at this
def CQ (H:HR ν h w) {c:AV} {u:Value} (d:VR1 ν h w c u):VRs w É.G (ç h c) u:=nS H (fun b hb=>.inr hb) d fun id b _ e hb=>H.ghne id b e hb
def LZ (H:HR ν h w) {id:Nat} {cs:AS AV} (e:lkB h id=.cells cs):(∀b,ć (ν id) b->¬É.G b)/\∀c∈cs,∀u,VR1 ν h w c u->VRs w É.G (ç h c) u :=
 ⟨fun b hb=>H.ghne id b (by rw[e]; rfl) hb,fun _ _ _ d=>CQ H d⟩
def ä.up2:∀{as:AS AV} {vs:AS Value},ä (Go.Am.VR2 ν h w) as vs->ä (Go.Am.VR ν h w) as vs
 |[],[],_=>trivial
 |_::_,_::_,h=>⟨h.1.up,ä.up2 h.2⟩
 |[],_::_,h=>h.elim
 |_::_,[],h=>h.elim
def Iu (H:HR ν h w):∀(l:AS Ty) {x:Val (tyL l)} {v:AV} {u:Value},VR ν h w v u->Ra l h v=some x->RR w É.G l x u
 |[],_,_,_,_,e=>by cases e
 |[t],x,v,u,d,e=>DN H d (fun _ _ _ i=>CQ H i) (fun _ _ _ c=>LZ H c) (fun id _ _ c b hb=>H.ghne id b c hb) e
 |t::u'::l,x,v,u,d,e=>by
  cases v with
  |tup as =>
   obtain⟨us,rfl,h2⟩:=d;exact⟨us,rfl,zU H (u'::l) t x as us.toList h2.up2 (fun _ _ _ _ _ i=>CQ H i) (fun _ _ _ _ _ c=>LZ H c) (fun _ _ id _ _ c b hb=>H.ghne id b c hb) e⟩
  |_=>cases e
def AT.mono {G d:Nat->Prop} (c:∀b,d b->G b):∀{l:AS Ty} {t:Ty} {x:Val (tys t l)} {vs:AS Value},AT w G l t x vs->AT w d l t x vs
 |[],t,x,vs,⟨v,h1,h2⟩=>⟨v,h1,h2.mono c⟩
 |u::l,t,x,vs,⟨v,vs',h1,h2,e⟩=>⟨v,vs',h1,h2.mono c,AT.mono c e⟩
def AL.mono {G c:Nat->Prop} (d:∀b,c b->G b):∀{l:AS Ty} {x:Val (tyL l)} {vs:AS Value},AL w G l x vs->AL w c l x vs
 |[],_,_,h=>h
 |_::_,_,_,h=>AT.mono d h
def AL.VR:∀{l:AS Ty} {x:Val (tyL l)} {vs:AS Value},AL w (Av ν h) l x vs->ä (VR ν h w) (HB l x) vs
 |[],_,_,h=>by cases h; trivial
 |_::_,_,_,h=>AT.VR h
end
omit [É] in
def CB {f:Nat} {p:Ğ} (E:Env (Val (tyL p.rs))) (d:∀[É],xc E) (hmix:E.P.follows .mixedOrders=true) (hl:vQ E) (law:xQ p E f):Š E.P f p:=by
 intro G x y C w vals B l q
 letI g:É:=Gh G
 have o:=law x;rw[C] at o;unfold topK at o;have hy:∀[É],ř E:=xc.yld d;have hall:∀n,n<=10->QU E n:=mY (fun _=>d) (fun L call F=>gC hmix L call F) hl;have j:∀M,@ψ _ (g.re g.G [] none M) _ E 2 (Α E 10):=fun M=>@hall 10 (Nat.le_refl _) (g.re g.G [] none M) (@hy _);have H:HR (fun _=>undef) [] w:=⟨fun _=>trivial,fun _ _ _ h=>(by cases h),B,fun _ _ h=>(by cases h),l,fun _ _ ⟨_,h,_⟩=>(by cases h)⟩;have m:∀b,Av (fun _=>undef) [] b->G b:=fun b hb=>hb.elim (fun⟨_,h,_⟩=>by cases h) id;have i:ä (VR (fun _=>undef) [] w) (HB p.ts x) vals:=AL.VR (q.mono m);obtain⟨h1,h2⟩:=zy j (fun M=>@gC _ (g.re g.G [] none M) _ _ hmix _ _ (j M)) (path:=[]) rfl (fun M fn c z A=>@hl 10 (Nat.le_refl _) (hall 10 (Nat.le_refl _)) (g.re g.G [] none M) (@hy _) [] f fn c rfl z A) o H (Nat.zero_le _) i;refine⟨h1,h2.mono fun e w' s=>?_⟩;obtain⟨ν',h',v,u,rfl,K,J,k,O,N,I⟩:=s;refine⟨u,rfl,Iu J _ K I,fun b hb=>(k.keep b hb fun⟨_,h,_⟩=>by cases h).1,k.size,k.os,k.tape,k.output⟩
omit [É] in
def CA {f:Nat} {p:Ğ} (E:Env (Val (tyL p.rs))) (b:∀[É],xc E) (hmix:E.P.follows .mixedOrders=true) {tab:AS (ō (Val (tyL p.rs)))} (e:E.loops=Ř tab) (c:∀x∈tab,x.Ok E) (law:xQ p E f) (d:E.ranges=gK []:=by rfl):Š E.P f p :=
 CB E b hmix (I0 hmix e c d) law
omit [É] in
def LR {f:Nat} {p:Ğ} (E c:Env (Val (tyL p.rs))) (e:∀[É],xc E) (b:∀[É],xc c) (l:c.P=E.P) (hmix:E.P.follows .mixedOrders=true) {tab:AS (ō (Val (tyL p.rs)))} (h0:c.loops=Ř tab) (j:∀x∈tab,x.Ok c) {us:AS Qg} (n:E.loops=I1 c us)
 (d:∀u∈us,(((Υ E.P u.fid).elim [] (Ò 0)).filter fun y=>Nat.beq y.1 u.bid).length=1) (law:xQ p E f) (k:c.ranges=gK []:=by rfl) (m:E.ranges=gK []:=by rfl) (i:c.yld=none:=by rfl):Š E.P f p :=
 CB E e hmix (ME (fun _=>b) l i m (l▸hmix) (I0 (l▸hmix) h0 j k) n d) law
omit [É] in
def lf {p:Ğ} {E:Env (Val (tyL p.rs))} {f:Nat} (h:∀x:Val (tyL p.ts),topK E f (HB p.ts x) (fun h v=>Â (Ra p.rs h v) some)=p.F x):xQ p E f:=fun x=>by
 rw[<-h x];congr 1;funext h v;unfold Â
 cases Ra p.rs h v<;>rfl
omit [É] in
def Ä {α:Type} {Q:α->Prop}:∀x∈([]:AS α),Q x:=fun _ h=>by cases h
omit [É] in
def Á {α:Type} {Q:α->Prop} {a:α} {l:AS α} (h:Q a) (c:∀x∈l,Q x):∀x∈a::l,Q x:=fun x b=>by
 rcases bC.1 b with rfl|b
 ·exact h
 ·exact c x b
@[reducible] def Gk (G:Nat->Prop) (D:AS Deferred) (Q:AN Nat):É:=⟨G,D,Q,0,0,0,.unit,fun _ _ _ _=>False,fun _ _ _ _ _ _ h=>h.elim⟩
end Go.Am
end

noncomputable section
namespace Go.Am
open Go.ChangeShapes Go.WideShapes Go.ChangeAt Go.RowKit
abbrev RF:Nat->Prop:=fun _=>False
def Rng:(t:Ty)->Val t->Prop
 |.int .i64,n=>-9223372036854775808<=(n:Int)/\(n:Int)<=9223372036854775807
 |.pair a b,x=>Rng a (x:Val a×Val b).1/\Rng b (x:Val a×Val b).2
 |.slice t,l=>∀x∈(l:AS (Val t)),Rng t x
 |_,_=>True
mutual
def OB (P:Program):Nat->Ty->TypeId->Bool
 |0,_,_=>false
 |n+1,τ,t =>
  match P.underlying t with
  |some .bool=>match τ with
   |.bool=>true
   |_=>false
  |some (.int k)=>match τ with
   |.int b=>k==b
   |_=>false
  |some .string=>match τ with
   |.str=>true
   |_=>false
  |some (.slice e)=>match τ with
   |.slice u=>OB P n u e&&(Nat.beq (P.cellsOf e) u.size&&Nat.ble 1 u.size)
   |_=>false
  |some (.struct fs)=>Nat.beq (P.cellsOf t) τ.size&&(τ.isAgg&&fieldsAre P n τ 0 fs.toList)
  |_=>false
def fieldsAre (P:Program):Nat->Ty->Nat->AS Field->Bool
 |0,_,_,_=>false
 |n+1,τ,off,[f]=>Nat.beq f.offset off&&(Nat.beq (P.cellsOf f.type) τ.size&&OB P n τ f.type)
 |n+1,.pair a b,off,f::g::fs=>Nat.beq f.offset off&&(Nat.beq (P.cellsOf f.type) a.size&&(OB P n a f.type&&fieldsAre P n b (off+a.size) (g::fs)))
 |_,_,_,_=>false
end
def CX {α β:Type} {f:α->AN β}:∀{l:AS α} {ys:AS β},l.mapM f=some ys->∀a∈l,∃y,f a=some y
 |[],ys,_,a,ha=>by cases ha
 |b::l,ys,h,a,ha=>by
  rw[List.mapM_cons] at h
  cases hb:f b with
  |none=>rw[hb] at h; cases h
  |some y =>
   rw[hb] at h
   cases c:l.mapM f with
   |none=>simp[c] at h
   |some zs =>
    rcases bC.1 ha with rfl|ha
    ·exact⟨y,hb⟩
    ·exact CX c a ha
def zH {α:Type} {Q:Nat->α->Prop}:∀n:Nat,(∀i,i<n->∃x,Q i x)->∃xs:AS α,xs.length=n/\∀i x,xs[i]?=some x->Q i x
 |0,_=>⟨[],rfl,fun i x h=>by simp at h⟩
 |n+1,h=>by
  obtain⟨xs,h1,h2⟩:=zH n fun i hi=>h i (by omega);obtain⟨x,c⟩:=h n (by omega);refine⟨xs++[x],by simp[h1],fun i y b=>?_⟩;rcases cd i n with hi|hi
  ·rw[List.getElem?_append_left (by omega)] at b; exact h2 i y b
  ·rw[List.getElem?_append_right (by omega),h1] at b
   have:i=n:=by
    rcases cd 0 (i-n) with h0|h0
    ·rw[List.getElem?_eq_none (by simp; omega)] at b; cases b
    ·omega
   subst this;simp at b;rw[<-b]; exact c
section
variable {H:Type} {enc:TypeId×Value->H} {P:Program} {w:World} {sp:Nat->Bool} {held:Bool}
def P0 {base:Nat} {a:Addr} {n:Nat} {cs:AS Value} (h:w.cells? base a n=some cs) (c:a.spot=none):Ĕ w a.block a.off cs:=by
 obtain⟨_,k,i⟩:=World.cells?_some h;intro j v d;have e:j<cs.length:=(bB.1 d).1;have:=i j (by omega);rw[d] at this;rw[<-this];congr 1;obtain⟨b,o,s⟩:=a;simp only at c;subst c;exact(add_plain b o j).symm
def JO (enc:TypeId×Value->H) (P:Program) (w:World) (sp:Nat->Bool) (held:Bool) (n:Nat):Prop :=
 ∀(τ:Ty) (t:TypeId) (b:Nat) (cs:AS Value) (d:DataW H) (ps:AS MemPlace),OB P n τ t=true->DataW.trod enc P w 0 sp held b t cs=some (d,ps)->∃x:Val τ,CR w RF τ x cs/\Rng τ x
def xD (enc:TypeId×Value->H) (P:Program) (w:World) (sp:Nat->Bool) (held:Bool) (n:Nat):Prop :=
 ∀(τ:Ty) (off:Nat) (fs:AS Field) (b:Nat) (cs:AS Value),fieldsAre P n τ off fs=true->(∀f∈fs,∃y,DataW.trod enc P w 0 sp held b f.type ((cs.drop f.offset).take (P.cellsOf f.type))=some y)->cs.length=off+τ.size->∃x:Val τ,CR w RF τ x (cs.drop off)/\Rng τ x
set_option maxHeartbeats 1000000 in
def Ln {n:Nat} (A:JO enc P w sp held n) (B:xD enc P w sp held n):JO enc P w sp held (n+1):=by
 intro τ t j cs d ps h e
 cases j with
 |zero=>simp[DataW.trod] at e
 |succ j =>
  unfold OB at h;unfold DataW.trod at e
  split at h
  ·-- bool
   rename_i q;rw[q] at e
   cases τ<;>try (cases h; done)
   rcases cs with _|⟨c,_|⟨U,cs⟩⟩<;>try first|(cases e; done)|(simp at e; done)
   cases c<;>try (cases e; done)
   rename_i b;exact⟨(show Val .bool from b),rfl,trivial⟩
  ·-- int
   rename_i k q;rw[q] at e
   cases τ<;>try (cases h; done)
   rename_i k'
   have hk:k=k':=by simpa using h
   subst hk
   rcases cs with _|⟨c,_|⟨U,cs⟩⟩<;>try first|(cases e; done)|(simp at e; done)
   cases c<;>try (cases e; done)
   rename_i X m;simp only at e
   split at e<;>try (cases e; done)
   rename_i L;obtain⟨rfl,E⟩:=L;refine⟨(show Val (.int X) from m),rfl,?_⟩
   cases X<;>try trivial
   simp only[Lit.wf,bu,decide_eq_true_eq] at E;exact E
  ·-- string
   rename_i q;rw[q] at e
   cases τ<;>try (cases h; done)
   rcases cs with _|⟨c,_|⟨U,cs⟩⟩<;>try first|(cases e; done)|(simp at e; done)
   cases c<;>try (cases e; done)
   rename_i s;exact⟨(show Val .str from s),rfl,trivial⟩
  ·-- slice
   rename_i v q;rw[q] at e
   cases τ<;>try (cases h; done)
   rename_i u;simp only[bu] at h;obtain⟨h1,h2,h3⟩:=h;have F:P.cellsOf v=u.size:=bD h2;have Y:1<=u.size:=ca h3
   rcases cs with _|⟨c,_|⟨U,cs⟩⟩<;>try first|(cases e; done)|(simp at e; done)
   cases c<;>try (cases e; done)
   rename_i base len cap
   cases base with
   |none =>
    cases len<;>cases cap<;>try (cases e; done)
    exact⟨(show Val (.slice u) from[]),⟨none,0,rfl,bt _,.inl rfl⟩,fun x K=>by cases K⟩
   |some a =>
    simp only at e
    split at e<;>try (cases e; done)
    rename_i hb
    cases G:(List.range len).mapM (fun i=>(w.cells? 0 (a.add (i*P.cellsOf v)) (P.cellsOf v)).bind (DataW.trod enc P w 0 sp held j v)) with
    |none=>rw[G] at e; cases e
    |some RN =>
     clear e
     have z:∀i,i<len->∃x:Val u,∃us,w.cells? 0 (a.add (i*P.cellsOf v)) (P.cellsOf v)=some us/\CR w RF u x us/\Rng u x:=by
      intro i hi;obtain⟨y,J⟩:=CX G i (List.mem_range.2 hi)
      cases L:w.cells? 0 (a.add (i*P.cellsOf v)) (P.cellsOf v) with
      |none=>rw[L] at J; cases J
      |some us =>
       rw[L] at J;obtain⟨d',N⟩:=y;obtain⟨x,g1,g2⟩:=A u v j us d' N h1 J;exact⟨x,us,rfl,g1,g2⟩
     obtain⟨xs,T,K⟩:=zH len z;refine⟨(show Val (.slice u) from xs),⟨some a,cap,by rw[T],by rw[T]; exact hb.2.1,?_⟩,fun x O=>?_⟩
     ·rcases ez len with h0|h0
      ·left; exact bL.1 (by rw[T,h0])
      ·right;obtain⟨x0,C,c0,_,_⟩:=z 0 h0;have I:=World.cells?_block c0 (by omega);obtain⟨_,l0,g0⟩:=World.cells?_some c0
       have l:a.spot=none:=by
        have h5:=g0 0 (by omega);obtain⟨V,S⟩:∃V,C[0]?=some V:=⟨C[0],br (by omega)⟩;rw[S] at h5;simpa[Addr.add] using World.cell?_spot h5
       obtain⟨b,o,s⟩:=a;simp only at l;subst l;refine⟨b,o,rfl,id,by simpa[Addr.add] using I,fun i x R=>?_⟩;obtain⟨us,W,q2,_⟩:=K i x R;refine⟨us,q2,?_⟩;rw[add_plain] at W;have:=P0 W rfl;rw[F] at this;exact this
     ·obtain⟨i,hi,rfl⟩:=bK.1 O;obtain⟨us,_,_,g⟩:=K i _ (br hi);exact g
  ·-- struct
   rename_i fs q;rw[q] at e;simp only[bu] at h;obtain⟨h1,_,h2⟩:=h;have F:P.cellsOf t=τ.size:=bD h1;simp only at e
   split at e<;>try (cases e; done)
   rename_i Z
   cases G:fs.toList.mapM (fun f=>DataW.trod enc P w 0 sp held j f.type ((cs.drop f.offset).take (P.cellsOf f.type))) with
   |none=>rw[G] at e; cases e
   |some xs =>
    have:=B τ 0 fs.toList j cs h2 (CX G) (by omega);simpa using this
  ·cases h
def HA {n:Nat} (A:JO enc P w sp held n) (B:xD enc P w sp held n):xD enc P w sp held (n+1):=by
 intro τ off fs c cs h k i;rcases fs with _|⟨f,_|⟨g,fs⟩⟩
 ·simp[fieldsAre] at h
 ·unfold fieldsAre at h;simp only[Bool.and_eq_true] at h;obtain⟨h1,h2,l⟩:=h;obtain⟨⟨d,ps⟩,e⟩:=k f (by simp);rw[Nat.eq_of_beq_eq_true h1,Nat.eq_of_beq_eq_true h2,List.take_of_length_le (by rw[List.length_drop]; omega)] at e;exact A τ f.type c _ d ps l e
 ·cases τ<;>try (simp[fieldsAre] at h; done)
  rename_i a b;unfold fieldsAre at h;simp only[Bool.and_eq_true] at h;obtain⟨h1,h2,l,u⟩:=h;obtain⟨⟨d,ps⟩,e⟩:=k f (by simp);rw[Nat.eq_of_beq_eq_true h1,Nat.eq_of_beq_eq_true h2] at e;obtain⟨x,s,q⟩:=A a f.type c _ d ps l e;simp only[Ty.size] at i;obtain⟨y,o,m⟩:=B b (off+a.size) (g::fs) c cs u (fun v j=>k v (by simp[j])) (by omega);refine⟨(show Val (.pair a b) from(x,y)),⟨_,_,?_,s,o⟩,q,m⟩;rw[<-List.drop_drop,List.take_append_drop]
def nQ:∀n,JO enc P w sp held n/\xD enc P w sp held n
 |0=>⟨fun τ t b cs d ps h _=>by simp[OB] at h,fun τ off fs b cs h _ _=>by simp[fieldsAre] at h⟩
 |n+1=>⟨Ln (nQ n).1 (nQ n).2,HA (nQ n).1 (nQ n).2⟩
def Ic {n:Nat} {τ:Ty} {t:TypeId} {v:Value} {d:DataW H} {ps:AS MemPlace} {r:Reach} {base:Nat} (e:OB P n τ t=true) (h:DataW.Trod enc P w 0 sp held t v d ps) (c:Value.okWide P w r base t v):∃x:Val τ,Ő w RF τ x v/\Rng τ x:=by
 obtain⟨j,l⟩:=h;obtain⟨x,h1,h2⟩:=(nQ n).1 τ t j _ d ps e l;refine⟨x,⟨_,h1,?_⟩,h2⟩
 cases n with
 |zero=>simp[OB] at e
 |succ n =>
  unfold OB at e;unfold Value.okWide at c
  split at e
  ·rename_i b;rw[b] at c
   cases τ<;>try (cases e; done)
   simp only[Cell.okWide,b] at c
   cases v<;>simp_all[Cell.ok,Value.cells,nJ,Ty.isAgg]
  ·rename_i k b;rw[b] at c
   cases τ<;>try (cases e; done)
   simp only[Cell.okWide,b] at c
   cases v<;>simp_all[Cell.ok,Value.cells,nJ,Ty.isAgg]
  ·rename_i b;rw[b] at c
   cases τ<;>try (cases e; done)
   simp only[Cell.okWide,b] at c
   cases v<;>simp_all[Cell.ok,Value.cells,nJ,Ty.isAgg]
  ·rename_i m b;rw[b] at c
   cases τ<;>try (cases e; done)
   simp only[Cell.okWide,b] at c
   cases v<;>simp_all[Cell.ok,Value.cells,nJ,Ty.isAgg]
  ·rename_i fs b;rw[b] at c;obtain⟨cs,rfl,_,_⟩:=c;simp only[bu] at e;have i:τ.isAgg=true:=e.2.1;simp[nJ,i,Value.cells]
  ·cases e
def qf (P:Program):AS Ty->AS TypeId->Bool
 |[],[]=>true
 |τ::l,t::ts=>OB P 40 τ t&&qf P l ts
 |_,_=>false
def Ie {r:Reach} {base:Nat}:∀(l:AS Ty) (τ:Ty) (t:TypeId) (ts:AS TypeId) (v:Value) (vs:AS Value) (k:AS (DataW H)) (ps:AS MemPlace),qf P (τ::l) (t::ts)=true->DataW.TrodAll enc P w 0 sp held (t::ts) (v::vs) k ps ->
 (∀(j:Nat) t' e,(t::ts)[j]?=some t'->(v::vs)[j]?=some e->Value.okWide P w r base t' e)->∃x:Val (tys τ l),AT w RF l τ x (v::vs)/\Rng (tys τ l) x
 |l,τ,t,ts,v,vs,[],ps,_,h,_=>by cases h
 |[],τ,t,ts,v,vs,d::k,ps,c,h,i=>by
  obtain⟨p,q,h1,h2,_⟩:=h;simp only[qf,bu] at c
  have:ts=[]:=by cases ts with|nil=>rfl|cons=>simp[qf] at c
  subst this
  have m:vs=[]:=by cases vs with|nil=>rfl|cons=>exact h2.elim
  subst m;obtain⟨x,o,n⟩:=Ic c.1 h1 (i 0 t v rfl rfl);exact⟨x,⟨v,rfl,o⟩,n⟩
 |u::l,τ,t,ts,v,vs,d::k,ps,c,h,i=>by
  obtain⟨p,q,h1,h2,_⟩:=h;simp only[qf,bu] at c;obtain⟨x,o,n⟩:=Ic c.1 h1 (i 0 t v rfl rfl);rcases ts with _|⟨t2,ts⟩
  ·simp[qf] at c
  ·rcases vs with _|⟨s,vs⟩
   ·exact h2.elim
   ·obtain⟨y,A,z⟩:=Ie l u t2 ts s vs k q c.2 h2 fun j t' e a b=>i (j+1) t' e (by simpa using a) (by simpa using b);exact⟨(show Val (.pair τ (tys u l)) from(x,y)),⟨v,s::vs,rfl,o,A⟩,n,z⟩
def OP {r:Reach} {base:Nat} {l:AS Ty} {ts:AS TypeId} {vs:AS Value} {b:AS (DataW H)} {ps:AS MemPlace} (d:qf P l ts=true) (h:DataW.TrodAll enc P w 0 sp held ts vs b ps)
 (i:∀(j:Nat) t' e,ts[j]?=some t'->vs[j]?=some e->Value.okWide P w r base t' e):∃x:Val (tyL l),AL w RF l x vs/\Rng (tyL l) x:=by
 rcases l with _|⟨τ,l⟩
 ·have:ts=[]:=by cases ts with|nil=>rfl|cons=>simp[qf] at d
  subst this
  have c:vs=[]:=by cases vs with|nil=>rfl|cons=>cases b<;>exact h.elim
  exact⟨(show Val .unit from()),c,trivial⟩
 ·rcases ts with _|⟨t,ts⟩
  ·simp[qf] at d
  ·rcases vs with _|⟨v,vs⟩
   ·cases b<;>exact h.elim
   ·exact Ie l τ t ts v vs b ps d h i
def rZ (k:laidOutB P=true) {W l:World} (hb:Below W.heap.size W l):∀{ts:AS TypeId} {vs:AS Value} {j:AS (DataW H)} {ps:AS MemPlace},(ts.all fun t=>P.readableRec t&&decide (t<P.types.size))=true->DataW.TrodAll enc P W 0 (fun _=>true) true ts vs j ps->(∀x∈ps,x.block<W.heap.size) ->
 DataW.TrodAll enc P l 0 (fun b=>decide (b<W.heap.size)) true ts vs j ps
 |[],[],[],ps,_,h,_=>h
 |t::ts,v::vs,d::j,ps,e,h,c=>by
  obtain⟨p,q,h1,h2,rfl⟩:=h;simp only[dN,bu,decide_eq_true_eq] at e;exact⟨p,q,Below.trod k e.1.1 e.1.2 h1 hb (fun x i=>c x (b8 _ i)),rZ k hb (by simpa using e.2) h2 (fun x i=>c x (bY _ i)),rfl⟩
 |[],[],_::_,_,_,h,_=>h.elim
 |[],_::_,_,_,_,h,_=>by cases ‹AS (DataW H)›<;>exact h.elim
 |_::_,[],_,_,_,h,_=>by cases ‹AS (DataW H)›<;>exact h.elim
 |_::_,_::_,[],_,_,h,_=>h.elim
def xG {W:World}:∀{ts:AS TypeId} {vs:AS Value} {b:AS (DataW H)} {ps:AS MemPlace},DataW.TrodAll enc P W 0 sp held ts vs b ps->b.length=ts.length
 |[],[],[],_,_=>rfl
 |_::_,_::_,_::_,_,h=>by obtain⟨p,q,_,h2,_⟩:=h; simp[xG h2]
 |[],[],_::_,_,h=>h.elim
 |[],_::_,b,_,h=>by cases b<;>exact h.elim
 |_::_,[],b,_,h=>by cases b<;>exact h.elim
 |_::_,_::_,[],_,h=>h.elim
end
def joined_of {P:Program} {f:FuncId} {fn:Func} {s:ChangeSpec} {c:OpenClaim} (h1:c.wf (OpenSpec.ofChange s)=true) (h2:laidOutB P=true) (U:mapsRowed P=true) (T:fn.params.all (P.readableRec ·)=true) (S:namedTie P c.named s.vars=true)
 (R:(c.stops==[])=true) (O:(P.stops==[])=true) (N:(c.knobs==[])=true) (L:(P.stopKnobs==[])=true) (K:(c.inPlace==P.inPlace f)=true) (J:(c.unfollowed==P.unfollowed f)=true) (I:(c.recurses==P.recurses f)=true) (G:(c.named==P.varsNamed f)=true)
 (F:(c.maps==(fn.params.toList++s.plain.varTypes P).any (P.mapsRec ·))=true) (E:(c.ifaces==(fn.params.toList++s.plain.varTypes P).any (P.ifacesRec ·))=true) (C:(c.mapsOut==P.mapsAmong fn.resultTypes.toList)=true)
 (B:(c.loops==(fn.params.toList++s.plain.varTypes P).any (P.loopsFrom ·))=true) (A:(c.wideKeys==(fn.params.toList++s.plain.varTypes P++fn.resultTypes.toList).any (P.wideKeysFrom ·))=true)
 (z:s.vars.all (P.varReadable ·)=true) (y:fn.resultTypes.all (fun t=>P.readableRec t&&decide (t<P.types.size))=true) (v:(c.ifacesOut==fn.resultTypes.toList.any (P.ifacesRec ·))=true) (u:(c.loopsOut==fn.resultTypes.toList.any (P.loopsFrom ·))=true)
 (q:(c.plainKeys==P.plainKeys)=true) (o:c.shortTexts.isNone=true) (n:P.stopsHeard=true) (m:P.mayEnter=true) (l:(c.lifted==P.liftsFinal)=true) (j:(P.make==some c.make)=true)
 (i:(c.kinds==(if c.domain.isEmpty then[] else fn.params.toList.map fun t=>match P.underlying t with|some (.int k)=>some k|_=>none))=true) (e:(c.pinned==c.pinnedBy)=true)
 (d:(c.veiled==(fn.params.toList++s.plain.varTypes P++fn.resultTypes.toList).any (P.veiledRec ·))=true) (b:c.veiledFits P fn.params.toList (fn.params.toList++s.plain.varTypes P++fn.resultTypes.toList)=true):joinedFacts P f fn s c=true:=by
 unfold joinedFacts;simp only[h1,h2,U,T,S,R,O,N,L,K,J,I,G,F,E,C,B,A,z,y,v,u,q,o,n,m,l,j,e,d,b,Bool.and_true];exact i
end Go.Am
end

noncomputable section
namespace Go.Am
open Go.ChangeShapes Go.WideShapes Go.ChangeAt Go.RowKit
section
variable {H:Type} {enc:TypeId×Value->H}
def law_laid [Globs] {C:Checked} {os:Os} {f:FuncId} {fn:Func} {sp:ChangeSpec} {F:Stop.Interp} {l:AS PathCond} {p:Ğ} {tb:TypeId} {k:AS (String×DataW Unit)}
 (L:∀W:World,laidMetH C.prog k W->W.ShapedOpen C.prog->Globs.Φ W)
 (own:ownKnob C.prog.godebug=none) (d:os.Started) (m:C.prog.inits.idxOf? f=none) (T:C.prog.funcs[f]?=some fn)
 (c:∃(w:World) (tape:Tape) (i:Input),w.os=os/\(w.forCall tape i).Shaped C.prog/\i.vars=[]/\Input.okWide C.prog (w.forCall tape i) .any w.heap.size f i /\
  (OpenSpec.ofChange sp).preRow enc C.prog fn l false k (w.forCall tape i).memory i.args/\({}:Assume).holds C.prog (lone (Frame.enter C.prog f i.args .normal) [] (w.forCall tape i)))
 (hp:Š C.prog f p) (o:p.rs=[.bool]) (law:∀x:Val (tyL p.ts),Rng (tyL p.ts) x->p.F x=some (o▸(show Val (tyL [.bool]) from true))) (E:qf C.prog p.ts fn.params.toList=true) (G:sp.vars=[])
 (hs:∀b:AS (DataW H),b.length=fn.params.toList.length->sp.fn H b={results:=[.lit (.bool true)],args:=b}) (hl:laidOutB C.prog=true) (O:(fn.params.toList.all fun t=>C.prog.readableRec t&&decide (t<C.prog.types.size))=true)
 (I:fn.resultTypes=#[tb]) (z:C.prog.underlying tb=some .bool) :
 ReturnsInHanded {} C os f .any ((OpenSpec.ofChange sp).preRow enc C.prog fn l false k) (((OpenSpec.ofChange sp).at F).post enc C.prog fn false true false false):=by
 refine returnsInHanded_of_row (s:=OpenSpec.ofChange sp) own d m T c ?_;intro W base args b gs J B Y _ _ _ hL N _;have A:=Y;obtain⟨K,q,V,U,rfl,_,_⟩:=Y
 have S:gs=[]/\q=[]:=by
  rw[show(OpenSpec.ofChange sp).vars=sp.vars from rfl,G] at U
  cases gs with
  |nil=>exact⟨rfl,U⟩
  |cons=>exact U.elim
 obtain⟨rfl,rfl⟩:=S;obtain⟨x,h1,h2⟩:=OP E V (r:=.any) (base:=base) fun j t v ht hv=>B j t v (by simpa using ht) (by simpa using hv);simp only[bW] at A
 have R:∀x∈K,x.block<W.heap.size:=fun x hx=>by simpa using A.lt x hx
 refine(callsIn_wide (n:=0)).1 ((hp RF x _ (law x h2) W args.toList (fun _ h=>h.elim) (L W hL N) h1).2.mono fun e W' hw=>?_);obtain⟨u,rfl,X,k2,k3,k4,k5,Z⟩:=hw
 have hu:u=.bool true:=by
  obtain⟨ts,rs,F⟩:=p;dsimp only at o X;subst o;obtain⟨us,c1,rfl⟩:=X;have:us=[.bool true]:=c1;rw[this]; rfl
 subst hu;have hb:Below W.heap.size W W':=⟨k4,k5,Z,k3,k2⟩
 have y:sp.fn H (b++[])={results:=[.lit (.bool true)],args:=b}:=by rw[bW]; exact hs b (xG V)
 refine⟨_,rfl,b,[],K,[],K,[],A,?_,?_,?_,hb.frame _,fun h=>by cases h⟩
 ·show DataW.TrodAll _ _ _ _ _ _ _ _ (sp.fn H (b++[])).results _;rw[y,I];exact trodAll_mk1 (shut_bool z _)
 ·show DataW.TrodAll _ _ _ _ _ _ _ _ (sp.fn H (b++[])).args _;rw[y];exact rZ hl hb O V R
 ·have e1:((OpenSpec.ofChange sp).at F).fn H (b++[])={results:=[.lit (.bool true)],args:=b}:=y;have e2:((OpenSpec.ofChange sp).at F).vars=[]:=G;rw[e1,e2]; rfl
def witness_laid {C:Checked} {os:Os} {f:FuncId} {fn:Func} {sp:ChangeSpec} {c:AS PathCond} {b:AS (String×DataW Unit)} (args:Array Value)
 (l:((World.laidAll C.prog os b).forCall (fun _ _=>0) ⟨#[],args,[]⟩).variablesZipB C.prog=true)
 (k:(((World.laidAll C.prog os b).forCall (fun _ _=>0) ⟨#[],args,[]⟩).heap.toList.drop C.prog.globals.size).take ((begin C.prog (fun _ _=>0) default).world.heap.size-C.prog.globals.size)=(begin C.prog (fun _ _=>0) default).world.heap.toList.drop C.prog.globals.size)
 (j:Input.okWideB C.prog ((World.laidAll C.prog os b).forCall (fun _ _=>0) ⟨#[],args,[]⟩) f ⟨#[],args,[]⟩=true)
 (d:sp.preB enc C.prog fn c false ((World.laidAll C.prog os b).forCall (fun _ _=>0) ⟨#[],args,[]⟩).memory args 8=true)
 (e:sp.sizedB enc C.prog fn false ((World.laidAll C.prog os b).forCall (fun _ _=>0) ⟨#[],args,[]⟩).memory args 8=true)
 (m:(b.all fun x=>x.2.handleName?.isNone)=true)
 (n:(World.holding C.prog os ⟨#[],#[],[]⟩).layFits C.prog b []=true)
 (hi:(World.holding C.prog os ⟨#[],#[],[]⟩).layIfaces C.prog b (World.laidAll C.prog os b)=true) :
 ∃(w:World) (tape:Tape) (i:Input),w.os=os/\(w.forCall tape i).Shaped C.prog/\i.vars=[]/\Input.okWide C.prog (w.forCall tape i) .any w.heap.size f i /\
  (OpenSpec.ofChange sp).preRow enc C.prog fn c false b (w.forCall tape i).memory i.args/\({}:Assume).holds C.prog (lone (Frame.enter C.prog f i.args .normal) [] (w.forCall tape i)) :=
 ChangeSpec.witness_shaped (enc:=enc) (X:=fun w _=>laidMetH C.prog b w) false (World.laidAll C.prog os b) args 8 (World.laidAll_os _ _ _) (World.shaped_of_ZipB l k) j d e
  (by rw[MakeChecks.laidMetH_plain _ _ _ m]; exact laidMet_laidAll _ n hi)
def shaped_int {P:Program} {W:World} (o:W.ShapedOpen P) {g:Nat} {t t':TypeId} {zero:Array Value} {k:IntKind} (q:g<P.globals.size) (j:((begin P (fun _ _=>0) default).world.heap[g]?).bind Obj.row?=some (zero,t)) (z:zero.size=1) (hb:P.buildable t=true)
 (v:P.cellTypes P.depth t=some [t']) (n:P.underlying t'=some (.int k)):∃m,W.cell? ⟨g,0,none⟩=some (.int k m):=by
 obtain⟨cs,h1,h2,y⟩:=o.1 g zero t q j;obtain⟨ts,d,_,i⟩:=y hb;rw[v] at d; cases d
 have c:0<cs.size:=by omega
 obtain⟨u,e,b⟩:=i 0 cs[0] (Array.getElem?_eq_getElem c);cases e;unfold Cell.ok at b;rw[n] at b
 have l:W.cell? ⟨g,0,none⟩=some cs[0]:=by simp[World.cell?,h1,c]
 rw[l]
 split at b<;>first|(cases ‹some (TypeDesc.int _)=_›; rename_i s; obtain⟨rfl,_⟩:=b; rw[s]; exact⟨_,rfl⟩)|(simp_all; done)|cases b
def shaped_cel {P:Program} {W:World} (i:W.ShapedOpen P) (ha:((List.range P.globals.size).all fun g=>(((begin P (fun _ _=>0) default).world.heap[g]?).bind Obj.row?).isSome)=true) (b:Nat) (hb:b<P.globals.size):∃c e r,W.heap[b]?=some (.cells c e r):=by
 have:=bR.1 ha b (List.mem_range.2 hb);obtain⟨⟨zero,t⟩,d⟩:=dV.1 this;obtain⟨cs,h1,_⟩:=i.1 b zero t hb d;exact⟨_,_,_,h1⟩
def laid_iface {P:Program} {W:World} {b n:String} {d:DataW Unit} {g ti:Nat} {ms:Array (String×TypeId)} (h:laidMet P [(b,.iface n d)] W) (e:P.globalNamed b=some g) (c:(P.globals[g]?).map (·.type)=some ti) (hi:P.underlying ti=some (.interface ms)) :
 ∃ev,W.cell? ⟨g,0,none⟩=some ev/\(ev=.nilIface\/∃l m,ev=.iface l m):=by
 obtain⟨ps,⟨g',t,cs,i,p,q,k,j,y,s,_,_⟩,_⟩:=h;rw[e] at k; cases k;rw[c] at j; cases j;obtain⟨_,u,v,o,_,_⟩:=iface_of_trod hi s;refine⟨.iface u v,?_,.inr ⟨u,v,rfl⟩⟩;rw[World.var?_cell e y 0,<-dM,o]; rfl
end
end Go.Am
end

noncomputable section
namespace Go.Am
open Go.RowKit
section
variable [Globs] {P:Program} {f:Nat} {p:Ğ}
def fB (hb:∃fn c,P.funcs[f]?=some fn/\fn.body=some c) (h:∀(G:Nat->Prop) (x:Val (tyL p.ts)) (y:Val (tyL p.rs)),p.F x=some y->∀(w:World) (vals:AS Value),(∀b,G b->b<w.heap.size)->Globs.Φ w->AL w G p.ts x vals ->
 Calls P f vals.toArray w fun e w'=>∃u,e=.returned u/\RR w' G p.rs y u/\Below w.heap.size w w'):Š P f p:=by
 intro G x y l w vals k d i;refine⟨hb,(callsIn_wide (n:=0)).2 ((h G x y l w vals k d i).mono fun e w' j=>?_)⟩;obtain⟨u,rfl,h1,h2⟩:=j;exact⟨u,rfl,h1,fun b hb=>h2.block b hb,h2.size,h2.os,h2.tape,h2.output⟩
end
def vM {w:World} {G:Nat->Prop} {s:ByteArray} {v:Value} (h:Ő w G .str s v):v=.string s:=by
 obtain⟨us,h1,rfl⟩:=h;have:us=[.string s]:=h1;rw[this]; rfl
def Oh {w:World} {G:Nat->Prop} {k:IntKind} {n:Int} {v:Value} (h:Ő w G (.int k) n v):v=.int k n:=by
 obtain⟨us,h1,rfl⟩:=h;have:us=[.int k n]:=h1;rw[this]; rfl
def Cp {w:World} {G:Nat->Prop} (s:ByteArray):Ő w G .str s (.string s):=⟨[.string s],rfl,rfl⟩
def int_arg {w:World} {G:Nat->Prop} (k:IntKind) (n:Int):Ő w G (.int k) n (.int k n):=⟨[.int k n],rfl,rfl⟩
def OT {w:World} {G:Nat->Prop} {b:Nat} {xs:AS ByteArray} {cs:Array Value} {e:TypeId} (hb:w.heap[b]?=some (.cells cs e (0,0))) (l:¬G b) (k:cs=(xs.map Value.string).toArray):Ő w G (.slice .str) xs (.slice (some ⟨b,0,none⟩) xs.length xs.length):=by
 refine⟨[_],⟨some ⟨b,0,none⟩,xs.length,rfl,bt _,.inr ⟨b,0,rfl,l,Õ hb,fun i x d=>⟨[.string x],rfl,fun j v c=>?_⟩⟩⟩,rfl⟩
 cases j with
 |succ j=>simp at c
 |zero =>
  simp only[cQ,Option.some.injEq] at c;subst c
  have hi:cs[i]?=some (.string x):=by rw[k]; simp[dE,d]
  unfold World.cell?
  simp[hb,Ty.size,hi]
def Qe {w:World} {G:Nat->Prop} {xs:AS ByteArray} {v:Value} (h:Ő w G (.slice .str) xs v):∃base cap,v=.slice base xs.length cap/\xs.length<=cap/\(xs=[]\/∃b o,base=some ⟨b,o,none⟩/\b<w.heap.size/\∀(j:Nat) (x:ByteArray),xs[j]?=some x->w.cell? ⟨b,o+j,none⟩=some (.string x)):=by
 obtain⟨us,⟨base,cap,e,l,h1⟩,rfl⟩:=h;refine⟨base,cap,?_,l,?_⟩
 ·rw[e]; rfl
 ·rcases h1 with h1|⟨b,off,hb,_,c,h2⟩
  ·exact .inl h1
  ·refine .inr ⟨b,off,hb,c,fun j x k=>?_⟩;obtain⟨us,i,d⟩:=h2 j x k;have:us=[.string x]:=i;subst this;have:=d 0 (.string x) (by simp);simpa[Ty.size] using this
end Go.Am
end

noncomputable section
namespace Go.Am
abbrev ilt (a b:Int):Bool:=decide (a<b)
abbrev ile (a b:Int):Bool:=decide (a<=b)
abbrev igt (a b:Int):Bool:=decide (a>b)
abbrev ige (a b:Int):Bool:=decide (a>=b)
abbrev ieq (a b:Int):Bool:=a==b
abbrev ine (a b:Int):Bool:=a != b
abbrev Β (a b:Int):Bool:=decide (a=b)
abbrev Û {α:Type} (l:AS α):Int:=EP l.length
abbrev Č {α:Type} (l:AS α):Int:=(l.length:Int)
section
variable {ρ:Type}
def ck (n:Int) (f:Int->AN ρ):AN ρ:=f (Li n)
def Ę {α:Type} (l:AS α) (i:Int) (f:α->AN ρ):AN ρ :=
 match decide (0<=i) with
 |true=>match l[i.toNat]? with
  |some e=>f e
  |none=>none
 |false=>none
def Ω {α:Type} (l:AS α) (i:Nat) (f:α->AN ρ):AN ρ :=
 match l[i]? with
 |some e=>f e
 |none=>none
def Gx {k v:Ty} (x:Val k) (l:AS (Val k×Val v)) (f:Val v->AN ρ) (g:AN ρ):AN ρ :=
 match ro x l with
 |some y=>f y
 |none=>g
def ì (b:Bool) (x:AN ρ):AN ρ:=match b with|true=>x|false=>none
def sget (s:ByteArray) (i:Int) (f:Int->AN ρ):AN ρ :=
 match decide (0<=i) with
 |true=>match s[i.toNat]? with
  |some b=>f b.toNat
  |none=>none
 |false=>none
def ifb (b:Bool) (x y:AN ρ):AN ρ:=match b with|true=>x|false=>y
def Et (x:AN (AS Int)) (f:Int->AN ρ) (n:AN ρ):AN ρ :=
 Â x fun l=>match l.find? (fun e=>e != 0) with
  |some e=>f e
  |none=>n
def yj {α β:Type} (f:α->AN β):AS α->AN (AS β)
 |[]=>some []
 |a::l=>match f a with
  |some b=>match yj f l with
   |some m=>some (b::m)
   |none=>none
  |none=>none
def nM (n:Nat):AS Int:=(List.range n).map fun(i:Nat)=>(i:Int)
end
end Go.Am
end

noncomputable section
namespace Go.Am
open Go
def i64B (n:Int):Bool:=decide (-9223372036854775808<=n)&&decide (n<=9223372036854775807)
def M3 (n:Int):AN ByteArray:=if i64B n then some ⟨(Lib.itoa n).toArray⟩ else none
def Lq (s p:ByteArray):AN ByteArray:=if s.size<=9223372036854775807 then some ⟨(Lib.trimSuffix s.data.toList p.data.toList).toArray⟩ else none
def indexF (s:ByteArray) (c:Int):AN Int:=some (Lib.indexByte s.data.toList c.toNat.toUInt8)
def Ea (s b:ByteArray):AN (AS ByteArray):=if decide (s.size<4294967281)&&decide (1<=b.size) then some (Lib.splitB b 0 (Lib.countB s b) s) else none
def MY (xs:AS ByteArray) (b:ByteArray):AN ByteArray:=if decide (xs.length<=140737488355328)&&decide ((Lib.join (xs.map (·.data.toList)) b.data.toList).length<=140737488355328) then some ⟨(Lib.join (xs.map (·.data.toList)) b.data.toList).toArray⟩ else none
def Oc (s:ByteArray):AN (Int×Bool):=match decide (s.size<=281474976710656) with
 |true=>some (match Lib.atoiAll s.data.toList with
  |.ok v=>(v,false)
  |.range=>(Lib.atoiSat s.data.toList,true)
  |_=>(0,true))
 |false=>none
def kQ:=M3
def Θ:=Lq
def jw:=Ea
def kP:=MY
def iz:Nat->ByteArray->AS ByteArray
 |0,_=>[]
 |n+1,s=>if s.size=0 then[] else if 0<=Lib.indexByte s.data.toList 10 then s.extract 0 (Lib.indexByte s.data.toList 10+1).toNat::iz n (s.extract (Lib.indexByte s.data.toList 10+1).toNat s.size) else[s]
def qR (s:ByteArray):AS ByteArray:=iz s.size s
section
variable {ρ:Type}
def Rh {α β:Type} (c:α->AN ρ) (b:β->AN ρ):Sum α β->AN ρ
 |.inl v=>c v
 |.inr z=>b z
def OD {α β γ:Type} (f:α->β->AN (Sum α γ)):AS β->α->(α->AN ρ)->(γ->AN ρ)->AN ρ
 |[],v,kn,_=>kn v
 |y::ys,v,kn,kx=>Â (f v y) (Rh (fun v=>OD f ys v kn kx) kx)
end
section
variable {ρ:Type} {σ:Type}
def Pn {α:Type} (x:α) (k:α->AN σ):Â (some x) k=k x:=rfl
def Pr {α:Type} (x:AN α) (f:α->AN ρ) (k:ρ->AN σ):Â (Â x f) k=Â x fun a=>Â (f a) k:=by cases x<;>rfl
def Ro (b:Bool) (x y:AN ρ) (k:ρ->AN σ):Â (ifb b x y) k=ifb b (Â x k) (Â y k):=by cases b<;>rfl
def Rn (b:Bool) (x:AN ρ) (k:ρ->AN σ):Â (ì b x) k=ì b (Â x k):=by cases b<;>rfl
def Pq {α:Type} (l:AS α) (i:Int) (f:α->AN ρ) (k:ρ->AN σ):Â (Ę l i f) k=Ę l i fun a=>Â (f a) k:=by
 unfold Ę; cases decide (0<=i)
 ·rfl
 ·cases l[i.toNat]?<;>rfl
def Pp {α:Type} (l:AS α) (i:Nat) (f:α->AN ρ) (k:ρ->AN σ):Â (Ω l i f) k=Ω l i fun a=>Â (f a) k:=by
 unfold Ω; cases l[i]?<;>rfl
def Po (s:ByteArray) (i:Int) (f:Int->AN ρ) (k:ρ->AN σ):Â (sget s i f) k=sget s i fun a=>Â (f a) k:=by
 unfold sget; cases decide (0<=i)
 ·rfl
 ·cases s[i.toNat]?<;>rfl
def nat_ck (n:Int) (f:Int->AN ρ) (k:ρ->AN σ):Â (ck n f) k=ck n fun a=>Â (f a) k:=rfl
end
end Go.Am
end

noncomputable section
namespace Go.Am
variable [Globs]
structure Sl where
 ty:Ty
 ts:AS Ty
 clo:Nat
 mt:Ty
 F:AS (Val ty)->Val (tyL ts)->Val mt->AN (AS (Val ty)×Val mt)
def Ii:AS AV->AN (AS AV×AV)
 |[]=>none
 |[a]=>some ([],a)
 |a::l=>match Ii l with
  |some (m,b)=>some (a::m,b)
  |none=>none
section
variable {ρ:Type}
def rowX (r:Sl) (h:AS Blk) (b:AS AV) (K:AV->AS Blk->AN ρ):AN ρ :=
 match b with
 |.own id g::as=>match Ii as with
  |some (ds,.fn (.func c) [] [.box bid 0])=>match Nat.beq c r.clo&&!Nat.beq id bid with
   |true=>match lkB h id with
    |.row t g' false xs=>match g==g' with
     |true=>match decEq t r.ty with
      |isTrue e=>match lkB h bid with
       |.cells cs=>match cs.all fun a=>!rU a with
        |true=>match rR h r.ts ds with
         |some x=>match (HB r.ts x).all plain with
          |true=>match Ï r.mt cs with
           |some m=>Â (r.F (l8 (F:=fun t=>AS (Val t)) e xs) x m) fun z=>K (.tup []) (Ú (Ú h id (.row r.ty g' false z.1)) bid (.cells (flat r.mt z.2)))
           |none=>none
          |false=>none
         |none=>none
        |false=>none
       |_=>none
      |isFalse _=>none
     |false=>none
    |_=>none
   |false=>none
  |_=>none
 |_=>none
def LG (r:Sl) (x:Val (tyL r.ts)):AS AV:=.own 0 0::(HB r.ts x++[.fn (.func r.clo) [] [.box 1 0]])
def ji (r:Sl) (xs:AS (Val r.ty)) (m:Val r.mt):AS Blk:=[.row r.ty 0 false xs,.cells (flat r.mt m)]
def Qt (r:Sl) (K:AS (Val r.ty)->Val r.mt->AN ρ) (v:AV) (h:AS Blk):AN ρ :=
 match v with
 |.tup []=>match lkB h 0 with
  |.row t 0 false ys=>match decEq t r.ty with
   |isTrue e=>match lkB h 1 with
    |.cells cs=>match cs.all fun a=>!rU a with
     |true=>match Ï r.mt cs with
      |some m=>K (l8 (F:=fun t=>AS (Val t)) e ys) m
      |none=>none
     |false=>none
    |_=>none
   |isFalse _=>none
  |_=>none
 |_=>none
end
structure RowOk (P:Program) (f:Nat) (r:Sl):Prop where
 ok:∀(G:Nat->Prop) (xs:AS (Val r.ty)) (x:Val (tyL r.ts)) (m:Val r.mt) (ys:AS (Val r.ty)) (m2:Val r.mt),r.F xs x m=some (ys,m2) ->
 ∀(ν:Nat->Value) (w:World) (vals:AS Value),@HR _ (Gh G) ν (ji r xs m) w->ä (@VR _ (Gh G) ν (ji r xs m) w) (LG r x) vals ->
  (∃fn c,P.funcs[f]?=some fn/\fn.body=some c)/\CallsIn Fence.wide 0 P f vals.toArray w fun e w'=>∃ν' h' v u,e=.returned u/\@VR _ (Gh G) ν' h' w' v u/\@HR _ (Gh G) ν' h' w'/\Ev 2 ν (ji r xs m) w ν' h' w'/\Qt r (fun zs m'=>some (zs,m')) v h'=some (ys,m2)
section
variable [É] {ρ:Type} {ν:Nat->Value} {h:AS Blk} {w:World} {P:Program}
def xJ:∀{l m:AS AV} {b:AV},Ii l=some (m,b)->l=m++[b]
 |[],_,_,e=>by cases e
 |[a],_,_,e=>by cases e; rfl
 |a::c::l,m,b,e=>by
  simp only[Ii] at e
  split at e<;>try (cases e; done)
  rename_i d i h1;cases e;rw[xJ h1];rfl
def Ca (H:HR ν h w) {cs:AS AV} (hd:(cs.all fun a=>!rU a)=true) {us:AS Value} (c:ä (VRc ν h w) cs us):ä (VRs w (Av ν h)) cs us :=
 ä.mono (fun _ _ b=>VR1.data b.1) c
def AL.plainG {G c:Nat->Prop}:∀{l:AS Ty} {x:Val (tyL l)} {vs:AS Value},(HB l x).all plain=true->AL w G l x vs->AL w c l x vs
 |[],_,_,_,h=>h
 |_::_,_,_,b,h=>AT.plain b h
def RI {f:Nat} {r:Sl} (hr:RowOk P f r):H5 P f (rowX (ρ:=ρ) r):=by
 intro h args K res e ν w vals H S;unfold rowX at e
 split at e<;>try (cases e; done)
 rename_i id g as
 split at e<;>try (cases e; done)
 rename_i ds c bid hsp
 split at e<;>try (cases e; done)
 rename_i hcb;simp only[bu,cg] at hcb;obtain rfl:=bD hcb.1
 have Y:id≠bid:=fun q=>by rw[q,Nat.beq_refl] at hcb; exact absurd hcb.2 (by simp)
 split at e<;>try (cases e; done)
 rename_i t g' xs hl
 split at e<;>try (cases e; done)
 rename_i Z
 obtain rfl:g=g':=by simpa using Z
 split at e<;>try (cases e; done)
 rename_i hty _;subst hty
 split at e<;>try (cases e; done)
 rename_i cs R
 split at e<;>try (cases e; done)
 rename_i hcs
 split at e<;>try (cases e; done)
 rename_i x hx
 split at e<;>try (cases e; done)
 rename_i hpl
 split at e<;>try (cases e; done)
 rename_i m hm;simp only[Â] at e
 split at e<;>try (cases e; done)
 rename_i z hys;obtain⟨ys,m2⟩:=z
 replace hys:r.F xs x m=some (ys,m2):=hys
 have has:=xJ hsp;subst has
 -- the arguments
 cases vals with
 |nil=>exact S.elim
 |cons u0 us =>
 obtain⟨hu0,hus⟩:=S;obtain⟨us1,us2,rfl,hds,hfn⟩:=hus.split;obtain⟨uf,rfl,huf⟩:=hfn.one
 have hu0':u0=ν id:=by
  obtain⟨_,t2,g2,fz2,xs2,hl2,_,hq⟩:=hu0;rw[hl] at hl2;cases hl2;exact hq rfl
 obtain⟨fs,cps,rfl,hfs,hcps⟩:=huf
 have d:(lkB h id).live=true:=by rw[hl]; rfl
 have l:(lkB h bid).live=true:=by rw[R]; rfl
 have hidl:id<h.length:=Ģ hl (by simp);have hbl:bid<h.length:=Ģ R (by simp);have hB:=H.blk id;rw[hl] at hB;have hC:=H.blk bid;rw[R] at hC
 -- the frame
 obtain⟨I,T⟩:∃I:Nat->Prop,I=fun b=>Av ν h b/\¬ć (ν id) b/\¬ć (ν bid) b:=⟨_,rfl⟩
 obtain⟨C,hν0⟩:∃C:Nat->Value,C=fun n=>if n=0 then ν id else if n=1 then ν bid else undef:=⟨_,rfl⟩
 have X:C 0=ν id:=by rw[hν0]; rfl
 have n1:C 1=ν bid:=by rw[hν0]; rfl
 have hAv:∀b,@Av _ (Gh I) C (ji r xs m) b->Av ν h b:=by
  rintro b (⟨i,hi,o⟩|Z)
  ·match i,hi,o with
   |0,_,o=>rw[X] at o; exact .inl ⟨id,d,o⟩
   |1,_,o=>rw[n1] at o; exact .inl ⟨bid,l,o⟩
   |i+2,hi,_=>cases hi
  ·have O:I b:=Z;rw[T] at O;exact O.1
 obtain⟨bb,cb,eb,hc1,hc2,hc3⟩:=hC;have hcr:CR w (Av ν h) r.mt m cb.toList:=ü hm (Ca H hcs hc3);have hx0:AL w (fun _=>False) r.ts x us1:=uw H hds (fun a _ c _ u hu=>Ed H hu) (fun _ _ _ _ _ _=>⟨fun _ _ hf=>hf,fun c _ u hu=>Ed H hu⟩) (fun _ _ _ _ _ _ _ _ hf=>hf) hx;have hx1:AL w (@Av _ (Gh I) C (ji r xs m)) r.ts x us1:=AL.plainG hpl hx0
 have H0:@HR _ (Gh I) C (ji r xs m) w:=by
  refine @HR.mk _ (Gh I) _ _ _ (fun i=>?_) (fun i j b hi hj s L=>?_) (fun b hb=>?_) (fun i b hi s Z=>?_) H.glob (fun b hb ⟨i,hi,o⟩=>by
   match i,hi,o with
   |0,_,o=>rw[X] at o; exact H.globL b hb ⟨id,d,o⟩
   |1,_,o=>rw[n1] at o; exact H.globL b hb ⟨bid,l,o⟩
   |i+2,hi,_=>cases hi)
  ·match i with
   |0 =>
    obtain⟨base,cap,G,J,W⟩:=hB;refine⟨base,cap,X.trans G,J,W.imp (fun z=>z) fun⟨b,off,c,e',q4,q5,q6,q7⟩=>⟨b,off,c,e',q4,q5,q6,fun i y hy=>?_⟩⟩;obtain⟨us,q8,q9⟩:=q7 i y hy;exact⟨us,CR.mono hAv q8,q9⟩
   |1=>exact⟨bb,cb,eb,n1.trans hc1,hc2,@fQ _ (Gh I) C (ji r xs m) w _ _ _ (CR.mono hAv hcr)⟩
   |i+2=>exact trivial
  ·match i,j,hi,hj,s,L with
   |0,0,_,_,_,_=>rfl
   |1,1,_,_,_,_=>rfl
   |0,1,_,_,s,L=>rw[X] at s; rw[n1] at L; exact absurd (H.inj id bid b d l s L) Y
   |1,0,_,_,s,L=>rw[n1] at s; rw[X] at L; exact absurd (H.inj id bid b d l L s) Y
   |i+2,_,hi,_,_,_=>cases hi
   |_,j+2,_,hj,_,_=>cases hj
  ·have hb':I b:=hb;rw[T] at hb';exact H.ltA hb'.1
  ·have O:I b:=Z;rw[T] at O
   match i,hi,s with
   |0,_,s=>rw[X] at s; exact O.2.1 s
   |1,_,s=>rw[n1] at s; exact O.2.2 s
   |i+2,hi,_=>cases hi
 have hargs0:ä (@VR _ (Gh I) C (ji r xs m) w) (LG r x) (u0::(us1++[.func (.func r.clo) fs cps])):=by
  refine⟨⟨?_,r.ty,0,false,xs,rfl,bt _,fun _=>hu0'.trans X.symm⟩,(@AL.VR _ (Gh I) C (ji r xs m) w _ _ _ hx1).append ⟨⟨fs,cps,rfl,?_,?_⟩,trivial⟩⟩
  ·rw[hu0'];obtain⟨base,cap,G,_⟩:=hB;rw[G]; rfl
  ·rw[hfs.nil_left]; trivial
  ·obtain⟨uc,hu1,hu2⟩:=hcps.one;rw[hu1];refine⟨?_,trivial⟩;obtain⟨cs',b',G,J,W⟩:=hu2;exact⟨flat r.mt m,b',rfl,n1.trans J,W⟩
 obtain⟨hbody,hcall⟩:=hr.ok I xs x m ys m2 hys C w _ H0 hargs0;refine⟨hbody,hcall.mono fun en w' hw=>?_⟩;obtain⟨ν',h',v,u,rfl,g1,g2,g3,N⟩:=hw
 -- what the run leaves
 unfold Qt at N
 split at N<;>try (cases N; done)
 split at N<;>try (cases N; done)
 rename_i t' ys' hl0
 split at N<;>try (cases N; done)
 rename_i hty' _;subst hty'
 split at N<;>try (cases N; done)
 rename_i cs' hl1
 split at N<;>try (cases N; done)
 rename_i hcs'
 split at N<;>try (cases N; done)
 rename_i m' hm';cases N;have nx0:=g3.blk 0 (by omega);rw[show lkB (ji r xs m) 0=.row r.ty 0 false xs from rfl,hl0] at nx0;obtain⟨_,_,_,G,_,W⟩:=nx0;cases G;obtain⟨v0,hylen⟩:=W rfl;have nx1:=g3.blk 1 (by omega);rw[show lkB (ji r xs m) 1=.cells (flat r.mt m) from rfl] at nx1;have v1:ν' 1=ν bid:=nx1.2.trans n1;rw[X] at v0;have b0:=@HR.blk _ (Gh I) _ _ _ g2 0;rw[hl0] at b0;have b1:=@HR.blk _ (Gh I) _ _ _ g2 1;rw[hl1] at b1
 have lv0:(lkB h' 0).live=true:=by rw[hl0]; rfl
 have lv1:(lkB h' 1).live=true:=by rw[hl1]; rfl
 have E:∀k,Ü (Ü ν id (ν id)) bid (ν bid) k=ν k:=fun k=>by
  by_cases G:k=bid
  ·rw[G,Ç]
  ·rw[ê _ _ G]
   by_cases J:k=id
   ·rw[J,Ç]
   ·rw[ê _ _ J]
 have hAv':∀b,Av (Ü (Ü ν id (ν id)) bid (ν bid)) (Ú (Ú h id (.row r.ty g false ys')) bid (.cells (flat r.mt m2))) b->@Av _ (Gh I) ν' h' b:=by
  rintro b (⟨k,hk,o⟩|Z)
  ·rw[E] at o
   by_cases G:k=bid
   ·rw[G] at o;exact .inl ⟨1,lv1,by rw[v1]; exact o⟩
   ·rw[È _ G] at hk
    by_cases J:k=id
    ·rw[J] at o;exact .inl ⟨0,lv0,by rw[v0]; exact o⟩
    ·rw[È _ J] at hk;refine .inr ?_;show I b;rw[T];exact⟨.inl ⟨k,hk,o⟩,fun q=>J (H.inj k id b hk d o q),fun q=>G (H.inj k bid b hk l o q)⟩
  ·refine .inr ?_;show I b;rw[T];exact⟨.inr Z,fun q=>H.ghne id b d q Z,fun q=>H.ghne bid b l q Z⟩
 obtain⟨ev,hr2⟩:=upd2 (w':=w') (A:=.row r.ty g false ys') (B:=.cells (flat r.mt m2)) (U:=ν id) (V:=ν bid) H Y hidl hbl g3.os g3.tape g3.output g3.size
  (fun b hb G J=>(g3.keep b hb fun⟨i,hi,o⟩=>by
   match i,hi,o with
   |0,_,o=>rw[X] at o; exact G d o
   |1,_,o=>rw[n1] at o; exact J l o
   |i+2,hi,_=>cases hi).1)
  (fun _ b hb=>.inl ⟨d,hb⟩) (fun _ b hb=>.inr (.inl ⟨l,hb⟩)) (fun _ _ b h1 h2=>Y (H.inj id bid b d l h1 h2))
  (by rw[hl]; exact⟨g,false,ys',rfl,bt _,fun _=>⟨E id,hylen⟩⟩)
  (by rw[R]; exact⟨⟨_,rfl⟩,E bid⟩)
  (fun ev=>by
   obtain⟨base,cap,G,J,W⟩:=b0;refine⟨base,cap,(E id).trans (v0.symm.trans G),J,W.imp (fun x=>x) fun⟨b,off,c,e',q4,q5,q6,q7⟩=>⟨b,off,c,e',q4,q5,q6,fun i y hy=>?_⟩⟩;obtain⟨us,q8,q9⟩:=q7 i y hy
   exact⟨us,CR.mono hAv' q8,q9⟩)
  (fun ev=>by
   obtain⟨b2,c2,e2,G,J,W⟩:=b1
   exact⟨b2,c2,e2,(E bid).trans (v1.symm.trans G),J,fQ (CR.mono hAv' (ü hm' (@Ca _ (Gh I) _ _ _ g2 _ hcs' _ W)))⟩)
 refine⟨_,_,.tup [],u,rfl,?_,hr2,ev,by rw[Ê,Ê]; exact bt _,fun j hj hd=>?_,e⟩
 ·obtain⟨vs,G,J⟩:=g1;exact⟨vs,G,by rw[J.nil_left]; trivial⟩
 ·have j1:j≠bid:=fun q=>by rw[q,R] at hd; cases hd
  have j2:j≠id:=fun q=>by rw[q,hl] at hd; cases hd
  rw[È _ j1,È _ j2];exact hd
end
def Sd {ρ:Type} (h:AS Blk) (b:AS AV) (K:AV->AS Blk->AN ρ):AN ρ :=
 match b with
 |[]=>none
 |a::l=>match l with
  |_::_=>none
  |[]=>match a with
   |.str s=>Â (Oc s) fun r=>K (.tup [.int .i64 r.1,.ifc r.2]) h
   |_=>none
structure OA (P:Program) (f:Nat):Prop where
 body:∃fn c,P.funcs[f]?=some fn/\fn.body=some c
 ok:∀(w:World) (s:ByteArray) (r:Int×Bool),Globs.Φ w->Oc s=some r->Calls P f #[.string s] w fun e w'=>∃u,e=.returned (.tuple #[.int .i64 r.1,u])/\u.oneCell'=true/\(r.2=false->u=.nilIface)/\(r.2=true->∃t x,u=.iface t x)/\RowKit.Below w.heap.size w w'
def PN [É] {ρ:Type} {P:Program} {f:Nat} (k:OA P f):H5 P f (Sd (ρ:=ρ)):=by
 intro h l K res e ν w vals H c;unfold Sd at e
 split at e<;>try (cases e; done)
 split at e<;>try (cases e; done)
 split at e<;>try (cases e; done)
 rename_i s;unfold Â at e
 split at e<;>try (cases e; done)
 rename_i r j;obtain⟨v,rfl,o⟩:=c.one;have i:v=.string s:=o;subst i;refine⟨k.body,(callsIn_wide (n:=0)).2 ((k.ok w s r H.glob j).mono fun y w' m=>?_)⟩;obtain⟨u,rfl,h0,h1,h2,d⟩:=m;obtain⟨ev,q⟩:=H.grow (fun b hb=>d.block b hb) d.size d.os d.tape d.output h.length;exact⟨ν,h,.tup [.int .i64 r.1,.ifc r.2],_,rfl,⟨#[.int .i64 r.1,u],rfl,rfl,⟨h0,h1,h2⟩,trivial⟩,q,ev,bt _,fun _ _ hd=>hd,e⟩
inductive Ol where
 |row (r:Sl)
 |atoi
def xK {ρ:Type}:Ol->AS Blk->AS AV->(AV->AS Blk->AN ρ)->AN ρ
 |.row r=>rowX r
 |.atoi=>Sd
def XOk (P:Program) (f:Nat):Ol->Prop
 |.row r=>RowOk P f r
 |.atoi=>OA P f
def Ji:AS (Nat×Ol)->Nat->AN Ol
 |[],_=>none
 |e::l,f=>match Nat.beq e.1 f with
  |true=>some e.2
  |false=>Ji l f
def extT {ρ:Type} (xt:AS (Nat×Ol)) (f:Nat):AN (AS Blk->AS AV->(AV->AS Blk->AN ρ)->AN ρ) :=
 match Ji xt f with
 |some x=>some (xK x)
 |none=>none
def zn:∀{l:AS (Nat×Ol)} {f:Nat} {x:Ol},Ji l f=some x->(f,x)∈l
 |[],_,_,e=>by cases e
 |a::l,f,x,e=>by
  simp only[Ji] at e
  split at e
  ·rename_i h;cases e;obtain rfl:=bD h;exact .head _
  ·exact .tail _ (zn e)
def ext_of [É] {ρ:Type} {P:Program} {xt:AS (Nat×Ol)} (b:∀e∈xt,XOk P e.1 e.2):∀f X,extT (ρ:=ρ) xt f=some X->H5 P f X:=by
 intro f X h;unfold extT at h
 split at h<;>try (cases h; done)
 rename_i x c;cases h;have:=b (f,x) (zn c)
 cases x with
 |row r=>exact RI this
 |atoi=>exact PN this
def pJ [É] {ρ:Type} {E:Env ρ} (h:E.ext=fun _=>none):∀f X,E.ext f=some X->H5 E.P f X:=fun f X e=>by rw[h] at e; cases e
def RH [É] {ρ:Type} {P:Program} {E:Env ρ} {xt:AS (Nat×Ol)} (b:∀e∈xt,XOk P e.1 e.2) (h:E.ext=extT xt) (c:E.P=P:=by rfl):∀f X,E.ext f=some X->H5 E.P f X:=fun f X e=>by
 rw[h] at e;rw[c];exact ext_of b f X e
end Go.Am
end
