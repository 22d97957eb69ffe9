/- lemmas -/
import Derived.Test.YtjlkjopcjcbooaaGreatDoorAmA
import Derived.Test.YtjlkjopcjcbooaaGreatDoorAmB
import Derived.RangeFuncLeaves
import Derived.RangeFuncNested
import Derived.Below
import Derived.ProofKit
import Derived.OpenShut
import Derived.WalkKit
import Derived.SizedLaws
import Derived.Carry
import Derived.Deep.DeepHandedRow
import Derived.Deep.DeepWitnessRowRef
import Derived.Lib.LaidTab
import Derived.Lay
import Derived.MakeChecks
import Derived.LaidSub
import Derived.FnData
import Derived.Lib.AtoiAll
import Derived.Lib.Bytealg
import Derived.Lib.ItoaNum
import Derived.Lib.Join
import Derived.Lib.Split
import Derived.Lib.Strings
set_option linter.all false
noncomputable section
namespace Go.Am
section
variable {w w':World} {X X':Nat->Prop}
structure abH (w:World) (X:Nat->Prop) (w':World) (X':Nat->Prop):Prop where
 size:w.heap.size<=w'.heap.size
 av:∀b,b<w.heap.size->¬X b->¬X' b
 dat:∀(b:Nat) (o:Obj),w.heap[b]?=some o->CD o=true->¬X b->w'.heap[b]?=some o
def abh {w:World} {a:Addr} {v:Value} (h:w.cell? a=some v):∃o,w.heap[a.block]?=some o/\CD o=true/\∀w':World,w'.heap[a.block]?=some o->w'.cell? a=some v:=by
 unfold World.cell? at h
 split at h<;>try (cases h; done)
 rename_i c e r hb;exact⟨_,hb,rfl,fun w' h'=>by unfold World.cell?; rw[h']; exact h⟩
def ę.kx (K:abH w X w' X') {b off:Nat} {vs:y5 Value} (hb:¬X b) (h:ę w b off vs):ę w' b off vs:=fun j v c=>by
 obtain⟨o,h1,h2,d⟩:=abh (h j v c);exact d w' (K.dat b o h1 h2 hb)
def CR.kx (K:abH w X w' X'):∀{t:Ty} {x:Val t} {vs:y5 Value},CR w X t x vs->CR w' X' t x vs
 |.unit,_,_,h=>h
 |.bool,_,_,h=>h
 |.int _,_,_,h=>h
 |.str,_,_,h=>h
 |.slice t,xs,vs,h=>by
  obtain⟨base,cap,e,q,h⟩:=h;refine⟨base,cap,e,q,?_⟩;rcases h with h|⟨b,off,hb,c,d,h⟩
  ·exact .inl h
  ·refine .inr ⟨b,off,hb,K.av b d c,cf d K.size,fun i x j=>?_⟩;obtain⟨us,h1,h2⟩:=h i x j;exact⟨us,CR.kx K h1,h2.kx K c⟩
 |.map k v,es,vs,h=>by
  obtain⟨r,e,h⟩:=h;refine⟨r,e,?_⟩;rcases h with h|⟨b,entries,clock,o,c,l,n,h⟩
  ·exact .inl h
  ·refine .inr ⟨b,entries,clock,o,K.av b (Ù l) c,K.dat b _ l rfl c,n,fun i x j=>?_⟩;obtain⟨m,us,h1,h2,u,s⟩:=h i x j;exact⟨m,us,h1,CR.kx K h2,CR.kx K u,s⟩
 |.ptr t,x,vs,h=>by
  obtain⟨b,off,us,e,c,d,h1,h2⟩:=h;exact⟨b,off,us,e,K.av b d c,cf d K.size,CR.kx K h1,h2.kx K c⟩
 |.pair a b,x,vs,h=>by
  obtain⟨us,ws,e,h1,h2⟩:=h;exact⟨us,ws,e,CR.kx K h1,CR.kx K h2⟩
end
section
variable [Globs] {g:É} {G':Nat->Prop} {D:y5 Deferred} {Q:x9 Nat} {M:Nat} {ν:Nat->Value} {h:y5 Blk} {w w':World}
structure gu (g:É) (ν:Nat->Value) (h:y5 Blk) (w:World) (G':Nat->Prop) (w':World):Prop where
 os:w'.os=w.os
 tape:w'.tape=w.tape
 output:w'.output=w.output
 size:w.heap.size<=w'.heap.size
 av:∀b,b<w.heap.size->¬@Av _ g ν h b->¬G' b
 dat:∀(b:Nat) (o:Obj),w.heap[b]?=some o->CD o=true->(@Av _ g ν h b->mq ν h b)->w'.heap[b]?=some o
 nd:∀(b:Nat) (o:Obj),w.heap[b]?=some o->CD o=false->b<g.B->w'.heap[b]?=some o
 gl:Globs.Φ w->∀b,b<Globs.n->w'.heap[b]?=w.heap[b]?
def gu.kx (K:gu g ν h w G' w'):abH w (@Av _ g ν h) w' (@Av _ (g.re G' D Q M) ν h) :=
 ⟨K.size,fun b hb c d=>d.elim (fun i=>c (.inl i)) (K.av b hb c),fun b o hb e c=>K.dat b o hb e fun d=>absurd d c⟩
def VR0.step (K:gu g ν h w G' w') {a:AV} {v:Value} (c:@VR0 _ g ν h w a v):@VR0 _ (g.re G' D Q M) ν h w' a v:=by
 cases a with
 |slc t xs=>exact CR.kx (gu.kx (D:=D) (Q:=Q) (M:=M) K) (t:=.slice t) c
 |mp k t es=>exact CR.kx (gu.kx (D:=D) (Q:=Q) (M:=M) K) (t:=.map k t) c
 |eptr t x off =>
  obtain⟨b,o,us,h1,h2,e,j,i⟩:=c;have d:=gu.kx (D:=D) (Q:=Q) (M:=M) K;exact⟨b,o,us,h1,d.av b e h2,cf e K.size,CR.kx d j,i.kx d h2⟩
 |_=>exact c
def VR1.step (K:gu g ν h w G' w') {a:AV} {v:Value} (b:@VR1 _ g ν h w a v):@VR1 _ (g.re G' D Q M) ν h w' a v:=by
 cases c:a.isFn with
 |true =>
  cases a<;>try cases c
  obtain⟨fs,cs,h1,h2,d⟩:=b;exact⟨fs,cs,h1,h2.mono fun _ _=>VR0.step K,d.mono fun _ _=>VR0.step K⟩
 |false =>
  rw[@qL _ (g.re G' D Q M) _ _ _ _ _ c];rw[@qL _ g _ _ _ _ _ c] at b;exact VR0.step K b
def VRc.step (K:gu g ν h w G' w') {a:AV} {v:Value} (b:@VRc _ g ν h w a v):@VRc _ (g.re G' D Q M) ν h w' a v:=⟨VR1.step K b.1,b.2⟩
def VR2.step (K:gu g ν h w G' w') {a:AV} {v:Value} (b:@VR2 _ g ν h w a v):@VR2 _ (g.re G' D Q M) ν h w' a v:=by
 cases c:a.isAgg with
 |true =>
  cases a<;>try cases c
  obtain⟨vs,h1,h2⟩:=b;exact⟨vs,h1,h2.mono fun _ _=>VRc.step K⟩
 |false =>
  rw[@sR _ (g.re G' D Q M) _ _ _ _ _ c];rw[@sR _ g _ _ _ _ _ c] at b;exact VR1.step K b
def VR.step (K:gu g ν h w G' w') {a:AV} {v:Value} (b:@VR _ g ν h w a v):@VR _ (g.re G' D Q M) ν h w' a v:=by
 cases c:a.isTup with
 |true =>
  cases a<;>try cases c
  obtain⟨vs,h1,h2⟩:=b;exact⟨vs,h1,h2.mono fun _ _=>VR2.step K⟩
 |false =>
  rw[@qK _ (g.re G' D Q M) _ _ _ _ _ c];rw[@qK _ g _ _ _ _ _ c] at b;exact VR2.step K b
def HR.step (K:gu g ν h w G' w') (Y:∀b,G' b->b<w'.heap.size) (W:∀b,mq ν h b->¬G' b) (H:@HR _ g ν h w):@HR _ (g.re G' D Q M) ν h w':=by
 have R:abH w (@Av _ g ν h) w' (@Av _ (g.re G' D Q M) ν h):=gu.kx K;have live:∀(id b:Nat) (o:Obj),(lkB h id).live=true->Ĝ (ν id) b->w.heap[b]?=some o->CD o=true->w'.heap[b]?=some o:=fun id b o A V hb hd=>K.dat b o hb hd fun _=>⟨id,A,V⟩;refine @HR.mk _ (g.re G' D Q M) ν h w' (fun id=>?_) (@HR.inj _ g _ _ _ H) Y (fun id b A hb=>W b ⟨id,A,hb⟩) (Globs.keep _ _ (@HR.glob _ g _ _ _ H) fun b hb=>K.gl (@HR.glob _ g _ _ _ H) b hb) (@HR.globL _ g _ _ _ H);have n:=@HR.blk _ g _ _ _ H id;have d:=live id
 cases A:lkB h id with
 |dead=>trivial
 |cells cs =>
  rw[A] at n d;obtain⟨b,c,e,h1,h2,y⟩:=n;exact⟨b,c,e,h1,d b _ rfl (by rw[h1]; rfl) h2 rfl,y.mono fun _ _=>VRc.step K⟩
 |row t g' fz xs =>
  rw[A] at n d
  cases fz with
  |true=>exact CR.kx R (t:=.slice t) n
  |false =>
   obtain⟨base,cap,h1,h2,y⟩:=n;refine⟨base,cap,h1,h2,?_⟩;rcases y with y|⟨b,off,c,e,E,T,h6,h7⟩
   ·exact .inl y
   ·have N:=d b _ rfl (by rw[h1,E]; rfl) T rfl;refine .inr ⟨b,off,c,e,E,N,h6,fun i x I=>?_⟩;obtain⟨us,B,C⟩:=h7 i x I;exact⟨us,CR.kx R B,C.keep (N.trans T.symm)⟩
 |map k v es =>
  rw[A] at n d;obtain⟨b,j,z,h1,h2,y,E⟩:=n;refine⟨b,j,z,h1,d b _ rfl (by rw[h1]; rfl) h2 rfl,y,fun i x I=>?_⟩;obtain⟨m,us,B,C,F,S⟩:=E i x I;exact⟨m,us,B,CR.kx R C,CR.kx R F,S⟩
 |fns es =>
  rw[A] at n d;obtain⟨b,j,z,h1,h2,y⟩:=n;exact⟨b,j,z,h1,d b _ rfl (by rw[h1]; rfl) h2 rfl,y.mono fun _ _ q=>⟨q.1,q.2.1,VR1.step K q.2.2⟩⟩
 |iter s q =>
  rw[A] at n d;obtain⟨b,h1,h2,y⟩:=n;exact⟨b,h1,d b _ rfl (by rw[h1]; rfl) h2 rfl,y⟩
 |deep k g' xss =>
  rw[A] at n d;obtain⟨base,cap,us,h1,h2,y,E,T⟩:=n;have own:∀u∈Value.slice base xss.length cap::us,∀(b:Nat) (o:Obj),iT u=some b->w.heap[b]?=some o->CD o=true->w'.heap[b]?=some o:=fun u J b o hb=>d b o rfl (by rw[h1]; exact⟨u,by simpa using J,hb⟩);refine⟨base,cap,us,h1,h2,y,?_,?_⟩
  ·rcases E with E|⟨b,off,c,e,B,C,F⟩
   ·exact .inl E
   ·exact .inr ⟨b,off,c,e,B,own _ (.head _) b _ (by rw[B]; rfl) C rfl,F⟩
  ·have U:∀(l:y5 (y5 Int)) (m:y5 Value),(∀u∈m,u∈us)->í (Rg w k) l m->í (Rg w' k) l m:=by
    intro l
    induction l with
    |nil=>intro m _ L; cases m with
     |nil=>trivial
     |cons=>exact L.elim
    |cons x l ih=>intro m Z L; cases m with
     |nil=>exact L.elim
     |cons u m =>
      refine⟨?_,ih m (fun u J=>Z u (eE _ J)) L.2⟩;obtain⟨G,O,B,C,F⟩:=L.1;refine⟨G,O,B,C,?_⟩;rcases F with F|⟨b,off,c,e,S,q5,q6⟩
      ·exact .inl F
      ·exact .inr ⟨b,off,c,e,S,own u (eE _ (Z u (.head _))) b _ (by rw[B,S]; rfl) q5 rfl,q6⟩
   exact U _ _ (fun u J=>J) T
 |acc t xs =>
  rw[A] at n d;obtain⟨us,h1,h2,y,E⟩:=n;refine⟨us,h1,fun b hb=>?_,y,?_⟩
  ·obtain⟨o,B,C⟩:=h2 b hb;exact⟨o,d b o rfl hb B C,C⟩
  ·refine g.st _ _ _ _ _ _ E ⟨K.os,K.tape,K.output,K.size,R.av,fun b o hb V I=>K.dat b o hb V fun hA=>⟨id,by rw[A]; rfl,I hA⟩,K.nd,K.gl⟩
def HR.re (H:@HR _ g ν h w):@HR _ (g.re g.G D Q M) ν h w:=@HR.mk _ (g.re g.G D Q M) ν h w (@HR.blk _ g ν h w H) (@HR.inj _ g ν h w H) (@HR.ghlt _ g ν h w H) (@HR.ghne _ g ν h w H) (@HR.glob _ g ν h w H) (@HR.globL _ g ν h w H)
def HR.er (H:@HR _ (g.re g.G D Q M) ν h w):@HR _ g ν h w:=@HR.mk _ g ν h w (@HR.blk _ (g.re g.G D Q M) ν h w H) (@HR.inj _ (g.re g.G D Q M) ν h w H) (@HR.ghlt _ (g.re g.G D Q M) ν h w H) (@HR.ghne _ (g.re g.G D Q M) ν h w H) (@HR.glob _ (g.re g.G D Q M) ν h w H) (@HR.globL _ (g.re g.G D Q M) ν h w H)
def gu.less {G':Nat->Prop} (e:∀b,G' b->g.G b):gu g ν h w G' w:=⟨rfl,rfl,rfl,bX _,fun b _ c d=>c (.inr (e b d)),fun b o hb _ _=>hb,fun b o hb _ _=>hb,fun _ _ _=>rfl⟩
def gu.nds (d:w'.os=w.os) (j:w'.tape=w.tape) (l:w'.output=w.output) (k:w.heap.size<=w'.heap.size) (i:∀(b:Nat) (o:Obj),w.heap[b]?=some o->CD o=true\/b<g.B->w'.heap[b]?=some o):gu g ν h w g.G w' :=
 ⟨d,j,l,k,fun b _ m n=>m (.inr n),fun b o hb hd _=>i b o hb (.inl hd),fun b o hb _ e=>i b o hb (.inr e),fun c b hb=>by obtain⟨o,h1,h2⟩:=Globs.dat w c b hb; rw[i b o h1 (.inl h2),h1]⟩
end
end Go.Am
end

noncomputable section
namespace Go.Am
variable [Globs] [É]
section
variable {ρ:Type} {ν ν':Nat->Value} {h h':y5 Blk} {w w':World} {P:Program}
def Je {v b:AV} (e:aak v=some b):b=v/\v.isTup=false:=by
 cases v<;>simp only[aak,Option.some.injEq,reduceCtorEq] at e<;>exact⟨e.symm,rfl⟩
def T3 {S:St} {a:Act} (H:Sim ν S a w) {rv:ResultVar} {v:AV} (e:PZ P S.h S.t rv=some v) :
 ∃u,(match rv with|.tmp t=>(pure (a.tmps.getD t undef):Sem Value)|.cell x t=>do loadVar t (<-asAddr (a.tmps.getD x undef))).run P w=.ok u w/\VR2 ν S.h w v u:=by
 cases rv with
 |tmp i =>
  obtain⟨rfl,c⟩:=Je e;have:=H.tmps i;rw[qK c] at this;exact⟨_,rfl,this⟩
 |cell x t =>
  simp only[PZ] at e
  split at e<;>try (cases e; done)
  rename_i j d;obtain⟨rfl,c⟩:=Je e;obtain⟨u,h1,h2⟩:=Xr H.heap d (H.tmps x);rw[qK c] at h2;refine⟨u,?_,h2⟩;simp only[Instr.loadAt] at h1
  cases b:a.tmps.getD x undef with
  |pointer p =>
   rw[b] at h1
   cases p with
   |none=>simp[Instr.sureAddr] at h1
   |some k =>
    show(do loadVar t (<-asAddr (a.tmps.getD x undef)):Sem Value).run P w=_;rw[b];simpa[Instr.sureAddr,asAddr] using h1
  |_=>rw[b] at h1; simp[Instr.sureAddr] at h1
def IX {S:St} {a:Act} (H:Sim ν S a w):∀{rs:y5 ResultVar} {vs:y5 AV},ED P S.h S.t rs=some vs ->
 ∃us:y5 Value,(rs.mapM (m:=Sem) fun|.tmp t=>pure (a.tmps.getD t undef)|.cell x t=>do loadVar t (<-asAddr (a.tmps.getD x undef))).run P w=.ok us w/\í (VR2 ν S.h w) vs us
 |[],vs,e=>by cases e; exact⟨[],rfl,trivial⟩
 |rv::rs,vs,e=>by
  simp only[ED] at e
  split at e<;>try (cases e; done)
  rename_i v d
  split at e<;>try (cases e; done)
  rename_i c b;cases e;obtain⟨u,h1,h2⟩:=T3 H d;obtain⟨us,j,i⟩:=IX H b;refine⟨u::us,?_,h2,i⟩;simp only[List.mapM_cons,Sem.run_bind,Sem.run_pure];rw[h1];simp only[Result.andThen_ok];rw[j];rfl
def VR2.up {v:AV} {u:Value} (b:VR2 ν h w v u):VR ν h w v u:=by
 cases c:v.isTup with
 |true =>
  cases v<;>try cases c
  exact b.elim
 |false=>rw[qK c]; exact b
def Bs {S:St} {a:Act} {fn:Func} {v:AV} (H:Sim ν S a w) (e:jE P fn S=some v):∃u,(results fn a.tmps).run P w=.ok u w/\VR ν S.h w v u:=by
 unfold jE at e
 cases c:ED P S.h S.t fn.results.toList with
 |none=>rw[c] at e; cases e
 |some vs =>
  obtain⟨us,h1,h2⟩:=IX H c
  have b:(results fn a.tmps).run P w=.ok (if h:us.toArray.size=1 then us.toArray[0] else .tuple us.toArray) w:=by
   unfold results;rw[Sem.run_bind,Array.mapM_eq_mapM_toList,Sem.run_map]
   erw [h1]
   rfl
  rw[c] at e
  rcases vs with _|⟨x,_|⟨y,l⟩⟩<;>rcases us with _|⟨u,_|⟨u',m⟩⟩
  ·cases e; exact⟨_,b,⟨#[],by simp,trivial⟩⟩
  ·exact h2.elim
  ·exact h2.elim
  ·exact h2.elim
  ·cases e; exact⟨_,b,h2.1.up⟩
  ·exact h2.2.elim
  ·exact h2.elim
  ·exact h2.2.elim
  ·cases e; exact⟨_,b,⟨(u::u'::m).toArray,by simp,h2⟩⟩
def í.lk {R:AV->Value->Prop} (b:∀u,R .any u):∀{l:y5 AV} {m:y5 Value} (i:Nat),í R l m->R (Am.lk l i) (m.getD i undef)
 |[],[],i,_=>b _
 |_::_,_::_,0,h=>h.1
 |_::_,_::_,i+1,h=>by simpa[ZA,ZB,Zz] using í.lk b i h.2
 |[],_::_,_,h=>h.elim
 |_::_,[],_,h=>h.elim
def vx (h:É.Q=none):fen=Fence.wide:=by
 unfold fen;rw[h];rfl
omit [É] in
def jv {F:Fence} {n:Nat} {fn:Func} {tmps:Array Value} {R:Ending->World->Prop}:∀(ms:y5 Nat) (w:World),ms.Nodup->(∀k∈ms,w.heap[k]?=some (.deferred (some []))) ->
 (∀w':World,w'.heap.size=w.heap.size->w'.os=w.os->w'.tape=w.tape->w'.output=w.output->(∀b,b∉ms->w'.heap[b]?=w.heap[b]?)->LeavesIn F n P fn tmps R [] .returning w')->LeavesInM F n P fn tmps R (ms.map mk1) .returning w
 |[],w,_,_,h=>h w rfl rfl rfl rfl fun _ _=>rfl
 |k::ms,w,s,c,h=>by
  refine⟨by simp,.inl ⟨k,_,rfl,run_takeDeferred (c k (.head _)),?_⟩⟩;obtain⟨h1,h2⟩:=eJ.1 s;refine jv ms _ h2 (fun j d=>?_) fun w' q o m l i=>h w' (by rw[q]; simp[World.putObj]) o m l fun b hb=>?_
  ·rw[World.putObj_heap_other (fun e=>h1 (by rw[<-e]; exact d))];exact c j (.tail _ d)
  ·rw[i b fun u=>hb (.tail _ u)];exact World.putObj_heap_other fun e=>hb (by rw[e]; exact .head _)
omit [É] in
def GP {g:É} {E:Env ρ} {call:y5 Nat->Bool->Nat->y5 AV->y5 Blk->(AV->y5 Blk->x9 ρ)->x9 ρ} {N:Nat} (hE:∀M,@gN _ (g.re g.G [] none M) ρ E N call) (hD:∀M,@kd _ (g.re g.G [] none M) ρ E N call) {path:y5 Nat} (q:path.length+2=N) {f:Nat} {args:y5 AV} {K:AV->y5 Blk->x9 ρ} {r:ρ}
 (hL:∀M fn c,E.P.funcs[f]?=some fn->fn.body=some c->∀x∈Ñ 0 c,@iy _ (g.re g.G [] none M) ρ E path f x.1 x.2)
 (e:OQ E call path f args h K=some r) {vals:y5 Value} (H:@HR _ g ν h w) (Y:g.B<=w.heap.size) (m:í (@VR _ g ν h w) args vals) :
 (∃fn c,E.P.funcs[f]?=some fn/\fn.body=some c) /\
 CallsIn Fence.wide 0 E.P f vals.toArray w fun e w'=>∃ν' h' v u,e=.returned u/\@VR _ g ν' h' w' v u/\@HR _ g ν' h' w'/\Ev h.length ν h w ν' h' w'/\h.length<=h'.length/\(∀j,j<h.length->lkB h j=.dead->lkB h' j=.dead)/\K v h'=some r:=by
 rw[UO] at e
 split at e<;>try (cases e; done)
 rename_i fn s
 split at e<;>try (cases e; done)
 rename_i c W;refine⟨⟨fn,c,s,W⟩,?_⟩
 letI g':É:=g.re g.G [] none w.heap.size
 refine callsIn_of_wp_marks s W trivial ?_;have z:=m.length
 have hS:Sim ν {t:=args++List.replicate (fn.ntmps-args.length) .any,h:=h} {tmps:=vals.toArray++Array.replicate (fn.ntmps-vals.toArray.size) undef,defers:=[]} w:=by
  refine⟨⟨⟨[],rfl,dT,fun _ h=>(by cases h)⟩,fun l A=>(by cases A),Y,bX _⟩,by simp[z],fun i=>?_,HR.re H⟩;simp only[F9];rcases cW i args.length with hi|hi
  ·have:=í.lk (R:=@VR _ g ν h w) (fun _=>trivial) i m
   have S:i<vals.length:=by omega
   have h2:(vals.toArray++Array.replicate (fn.ntmps-vals.toArray.size) undef).getD i undef=vals.getD i undef:=by
    simp[cE,dU,S]
   rw[h2]; exact this
  ·rw[Xt _ _ hi]; trivial
 have C:=iP (hE _) (hD _) q c 0 _ _ ν _ w (hL _ fn c s W) e hS (bX _);rw[vx rfl] at C;refine wpIn_mono C fun x I w' ha=>?_;obtain⟨ν',F,h1,h2,h3,h4,d⟩:=ha
 have fin:∀v,jE E.P fn F=some v->K v F.h=some r->LeavesInM Fence.wide 0 E.P fn I.tmps (fun e w'=>∃ν' h' v u,e=.returned u/\@VR _ g ν' h' w' v u/\@HR _ g ν' h' w'/\Ev h.length ν h w ν' h' w'/\h.length<=h'.length/\(∀j,j<h.length->lkB h j=.dead->lkB h' j=.dead)/\K v h'=some r) I.defers .returning w':=by
  intro v S V;obtain⟨⟨ms,m1,m2,O⟩,_,m4,m5⟩:=h1.defers;rw[show I.defers=ms.map mk1 from m1.trans (cn _)];refine jv ms w' m2 (fun k V=>(O k V).1) fun J q1 q2 q3 q4 Z=>?_
  have U:∀(b:Nat) (o:Obj),w'.heap[b]?=some o->CD o=true\/b<g'.B->J.heap[b]?=some o:=fun b o hb hd=>by
   have y:b∉ms:=fun T=>by
    obtain⟨m6,L⟩:=O b T;rw[m6] at hb; cases hb;rcases hd with hd|hd
    ·cases hd
    ·have:g'.B<=w.heap.size:=Y;have L:w.heap.size<=b:=L;omega
   rw[Z b y]; exact hb
  have KG:gu g' ν' F.h w' g'.G J:=gu.nds q2 q3 q4 (by omega) U;have n:Sim ν' F {I with defers:=[]} J:=⟨⟨⟨[],rfl,dT,fun _ h=>(by cases h)⟩,fun l A=>(by cases A),Y,by rw[q1]; exact m5⟩,h1.len,fun i=>VR.step (g:=g') (D:=[]) (Q:=none) (M:=w.heap.size) KG (h1.tmps i),HR.step (g:=g') (D:=[]) (Q:=none) (M:=w.heap.size) KG (fun b hb=>by have:=h1.heap.ghlt b hb; omega) (fun b ⟨id,A,ho⟩=>h1.heap.ghne id b A ho) h1.heap⟩;obtain⟨u,r1,r2⟩:=Bs n S;refine⟨u,r1,ν',F.h,v,u,rfl,r2,HR.er n.heap,⟨q2.trans h2.os,q3.trans h2.tape,q4.trans h2.output,by rw[q1]; exact h2.size,fun b hb hn=>?_,h2.blk⟩,h3,h4,V⟩;obtain⟨e1,e2⟩:=h2.keep b hb hn;refine⟨?_,e2⟩
  have y:b∉ms:=fun T=>by
   have L:w.heap.size<=b:=(O b T).2;omega
  rw[Z b y]; exact e1
 cases x with
 |normal =>
  simp only at d
  split at d<;>try (cases d; done)
  exact fin _ ‹_› d
 |ret =>
  simp only at d
  split at d<;>try (cases d; done)
  exact fin _ ‹_› d
 |exit id=>cases d
 |goto l=>cases d
 |panic ch=>cases d
 |outgrown=>cases d
def Pq (P:Program) (f:Nat) (X:y5 Blk->y5 AV->(AV->y5 Blk->x9 ρ)->x9 ρ):Prop :=
 ∀(h:y5 Blk) (args:y5 AV) (K:AV->y5 Blk->x9 ρ) (r:ρ),X h args K=some r->∀ν w vals,HR ν h w->í (VR ν h w) args vals->Bi P f ν h w vals K r
structure uR (E:Env ρ):Prop where
 pure:∀f p,E.pure f=some p->Þ E.P f p
 sort:∀f,E.sort f=true->∀(h:y5 Blk) (x:AV) (K:AV->y5 Blk->x9 ρ) (r:ρ),Ko h x K=some r->∀ν w u,HR ν h w->VR ν h w x u->Bi E.P f ν h w [u] K r
 compact:∀f,E.compact f=true->∀(h:y5 Blk) (x:AV) (K:AV->y5 Blk->x9 ρ) (r:ρ),mN h x K=some r->∀ν w u,HR ν h w->VR ν h w x u->Bi E.P f ν h w [u] K r
 plain : ∀ (f : Nat) (fn : Func), E.P.funcs[f]? = some fn -> (fn.name == "runtime.NumGoroutine") = false
 clone:Cq E.P E.clone
 joins:TI E
 yld:Ι E
 ext:∀f X,E.ext f=some X->Pq E.P f X
omit [É] in
def YJ {E:Env ρ} (n:Nat):(∀f p,E.pure f=some p->∀path b args h K,ŭ E (n+1) path b f args h K=Kw (b&&!E.fz f) p h args K) /\
 (∀f,E.pure f=none->E.sort f=true->∀path b args h K,ŭ E (n+1) path b f args h K=match args with|[x]=>Ko h x K|_=>none) /\
 (∀f,E.pure f=none->E.sort f=false->E.compact f=true->∀path b args h K,ŭ E (n+1) path b f args h K=match args with|[x]=>mN h x K|_=>none) :=
 ⟨fun f p c path b args h K=>by simp only[ŭ,c],fun f c d path b args h K=>by simp only[ŭ,c,d]; rfl,fun f c d e path b args h K=>by simp only[ŭ,c,d,e]; rfl⟩
omit [É] in
def jk {E:Env ρ} (i:∀[É],Ι E->uR E) (hdraw:∀[É] L call,gN E L call->kd E L call)
 (hloops:∀n,n<=10->(∀[É],Ι E->gN E (22-2*n) (ŭ E n))->∀[É],Ι E->∀(path:y5 Nat) (f:Nat) (fn:Func) (c:Code),path.length+2=22-2*n->E.P.funcs[f]?=some fn->fn.body=some c->∀x∈Ñ 0 c,iy E path f x.1 x.2) :
 ∀n,n<=10->∀[É],Ι E->gN E (22-2*n) (ŭ E n):=by
 intro n
 induction n with
 |zero=>exact fun _ _ l=>⟨.inl fun _ _ _ _ _ _=>rfl,fun path q g args h K r _ e=>(by cases e),(i l).plain,(i l).clone,(i l).joins,l⟩
 |succ n v =>
  intro J k l;have hE:∀[É],Ι E->gN E (22-2*n) (ŭ E n):=v (by omega);have b:=i l;refine⟨.inr (YJ n),fun path q g args h K r I e ν w vals H C d=>?_,b.plain,b.clone,b.joins,l⟩;simp only[ŭ] at e
  split at e
  ·rename_i F z;exact T9 (b.pure g F z) e H d
  ·split at e
   ·rename_i y
    split at e<;>try (cases e; done)
    rename_i x;obtain⟨u,rfl,s⟩:=d.one;exact b.sort g y h x K r e ν w u H s
   ·split at e
    ·rename_i A
     split at e<;>try (cases e; done)
     rename_i x;obtain⟨u,rfl,s⟩:=d.one;exact b.compact g A h x K r e ν w u H s
    ·split at e
     ·rename_i X B;exact b.ext g X B h args K r e ν w vals H d
     split at e<;>try (cases e; done)
     split at e<;>try (cases e; done)
     have j:path.length+2=22-2*n:=by omega
     have m:∀M,@Ι _ (k.re k.G [] none M) ρ E:=fun _=>l;have o:∀M,@gN _ (k.re k.G [] none M) ρ E (22-2*n) (ŭ E n):=fun M=>@hE (k.re k.G [] none M) (m M);exact GP o (fun M=>@hdraw (k.re k.G [] none M) _ _ (o M)) j (fun M fn c h1 h2=>@hloops n (by omega) hE (k.re k.G [] none M) (m M) path g fn c j h1 h2) e H C d
end
end Go.Am
end

noncomputable section
namespace Go.Am
variable [Globs] [É]
section
variable {ρ:Type} {P:Program} {h h2:y5 Blk} {t t2:y5 AV}
def lW (h h2:y5 Blk) (v:AV):Prop:=∀id∈refs2 h v,lkB h2 id=lkB h id
def lW.one {v:AV} (b:lW h h2 v):∀id∈refs1 v,lkB h2 id=lkB h id:=fun id hi=>b id (by simp only[refs2,b8]; exact .inl hi)
def lW.refs {v:AV} (d:lW h h2 v):refs2 h2 v=refs2 h v:=by
 simp only[refs2]
 have:∀(l:y5 Nat),(∀id∈l,lkB h2 id=lkB h id)->(l.flatMap fun id=>(G6 (lkB h2 id)).flatMap Ć)=l.flatMap fun id=>(G6 (lkB h id)).flatMap Ć:=by
  intro l
  induction l with
  |nil=>intro _; rfl
  |cons x l c=>intro b; simp only[cH]; rw[b x (by simp),c fun id hi=>b id (by simp[hi])]
 rw[this _ d.one]
def mT {v:AV} (b:∀id∈Ć v,lkB h2 id=lkB h id):ñ h2 v=ñ h v:=by
 cases v<;>first
  |rfl
  |(simp only[ñ]; rw[b _ (by simp[Ć])])
def yk {v:AV} (d:∀id∈refs1 v,lkB h2 id=lkB h id):Ry h2 v=Ry h v:=by
 have one:(∀id∈Ć v,lkB h2 id=lkB h id)->ñ h2 v=ñ h v:=mT
 cases v with
 |agg cs =>
  simp only[Ry,AV.agg.injEq];exact dP fun c e=>mT fun id hi=>d id (cY.2 ⟨c,e,hi⟩)
 |fn f a b=>exact one fun _ hi=>by cases hi
 |_=>exact one d
def UA {ty:TypeId} {a:AV} (b:∀id∈refs1 a,lkB h2 id=lkB h id) (K:AV->x9 ρ):F8 P h2 ty a K=F8 P h ty a K:=by
 cases a<;>first
  |rfl
  |(simp only[F8]; rw[b _ (by simp[refs1,Ć])])
def PR {o:Nat} {a:AV} (b:∀id∈refs1 a,lkB h2 id=lkB h id) (K:AV->x9 ρ):tr h2 a o K=tr h a o K:=by
 cases a<;>first
  |rfl
  |(simp only[tr]; rw[b _ (by simp[refs1,Ć])])
def QD {sz:Nat} {a i:AV} (b:∀id∈refs1 a,lkB h2 id=lkB h id) (K:AV->x9 ρ):w9 sz h2 a i K=w9 sz h a i K:=by
 cases i<;>try rfl
 cases a<;>first
  |rfl
  |(simp only[w9]; rw[b _ (by simp[refs1,Ć])])
def XC {d:x9 TypeDesc} {a:AV} (b:∀id∈refs1 a,lkB h2 id=lkB h id) (K:AV->x9 ρ):ZC d h2 a K=ZC d h a K:=by
 unfold ZC
 split<;>cases a<;>first
  |rfl
  |(simp only[]; rw[b _ (by simp[refs1,Ć])])
def Og {ty:TypeId} {m i:AV} {ok:Bool} (b:∀id∈refs1 m,lkB h2 id=lkB h id) (K:AV->x9 ρ):kH P h2 ty m i ok K=kH P h ty m i ok K:=by
 unfold kH
 have:ñ h2 m=ñ h m:=mT fun id hi=>b id (by cases m<;>first|exact hi|simp[Ć] at hi)
 rw[this]
def Q3 {σ:Type} {a:AV} {K:AV->x9 σ} (b:∀id∈refs1 a,lkB h2 id=lkB h id):xj h2 a K=xj h a K:=by
 cases a<;>first
  |rfl
  |(simp only[xj]; rw[b _ (by simp[refs1,Ć])])
def Oh {σ:Type} {P:Program} {ty:TypeId} {id:Nat} {i:AV} {ok:Bool} {K:AV->x9 σ} (b:lkB h2 id=lkB h id):pp P h2 ty id i ok K=pp P h ty id i ok K:=by
 unfold pp;rw[b]
def Cw {σ:Type} {sz:Nat} {a:AV} {lo hi:x9 AV} (K:AV->y5 Blk->x9 σ):nr sz h a lo hi false K=(nr sz h a lo hi false fun v _=>some v).bind fun v=>K v h:=by
 unfold nr;dsimp only
 (repeat' split)<;>rfl
def PQ {sz:Nat} {a:AV} {lo hi:x9 AV} (b:∀id∈refs1 a,lkB h2 id=lkB h id):∃φ:x9 AV,(∀{σ:Type} (K:AV->y5 Blk->x9 σ),nr sz h a lo hi false K=φ.bind fun v=>K v h)/\∀{σ:Type} (K:AV->y5 Blk->x9 σ),nr sz h2 a lo hi false K=φ.bind fun v=>K v h2:=by
 refine⟨nr sz h a lo hi false fun v _=>some v,fun K=>?_,fun K=>?_⟩
 ·exact Cw K
 ·rw[Cw K];congr 1
  cases a<;>first
   |rfl
   |(simp only[nr]; rw[b _ (by simp[refs1,Ć])])
def ap (nid:Nat) (b:x9 Blk) (h:y5 Blk):y5 Blk:=match b with|none=>h|some B=>ã h nid B
def pbind {α σ σ2:Type} {R:x9 σ->x9 σ2->Prop} (h0:R none none) {x:x9 α} {K:α->x9 σ} {K2:α->x9 σ2} (h:∀a,R (K a) (K2 a)):R (x.bind K) (x.bind K2):=by
 cases x with
 |none=>exact h0
 |some a=>exact h a
def pb2 {α σ σ2:Type} {R:x9 σ->x9 σ2->Prop} (h0:R none none) {x:x9 α} {K:α->x9 σ} {K2:α->x9 σ2} {z:x9 σ} {z2:x9 σ2} (h1:z=x.bind K) (h2:z2=x.bind K2) (h:∀a,R (K a) (K2 a)):R z z2:=by
 subst h1 h2; exact pbind h0 h
def E6 {l:y5 Operand} (b:∀x∈l,ev t2 x=ev t x):l.map (ev t2)=l.map (ev t):=dP b
def W0 {l:y5 (Nat×Operand)} (b:∀x∈l.map (·.2),ev t2 x=ev t x):(l.map fun p=>(p.1,ev t2 p.2))=l.map fun p=>(p.1,ev t p.2):=dP fun p c=>by rw[b p.2 (cR.2 ⟨p,c,rfl⟩)]
def IW {ty:Ty}:∀{ps:y5 (Nat×AV)} {n:Nat},(∀p∈ps,∀id∈refs1 p.2,lkB h2 id=lkB h id)->EB h2 ty n ps=EB h ty n ps
 |[],_,_=>rfl
 |(i,v)::ps,n,b=>by
  simp only[EB];rw[yk (b (i,v) (by simp)),IW fun q c=>b q (by simp[c])]
def abU {σ σ2:Type} {R:x9 σ->x9 σ2->Prop} {E:Env ρ} {o:Op} {nid:Nat} {K:AV->St->x9 σ} {K2:AV->St->x9 σ2} (h0:R none none) (u:cls E o<=1) (F:JO o=false)
 (k:∀x∈o.operands.toList,ev t2 x=ev t x) (C:cls E o=1->∀x∈o.operands.toList,∀id∈refs1 (ev t x),lkB h2 id=lkB h id)
 (J:∀v I,(I.isSome=true->ā E.clone o=true)->R (K v {t:=t,h:=ap nid I h}) (K2 v {t:=t2,h:=ap nid I h2})) :
 R (opK P {t:=t,h:=h} nid false o K) (opK P {t:=t2,h:=h2} nid false o K2):=by
 have j:∀v,R (K v {t:=t,h:=h}) (K2 v {t:=t2,h:=h2}):=fun v=>J v none (by simp);have ha:ā E.clone o=true->∀v B,R (K v {t:=t,h:=ã h nid B}) (K2 v {t:=t2,h:=ã h2 nid B}):=fun T v B=>J v (some B) fun _=>T
 cases o with
 |move x =>
  have e:=k x (by simp[Op.operands]);simp only[opK,e]; exact j _
 |assign x =>
  have e:=k x (by simp[Op.operands]);simp only[opK,e]; exact j _
 |pick c a b =>
  have s:=k c (by simp[Op.operands]);have z:=k a (by simp[Op.operands]);have S:=k b (by simp[Op.operands]);simp only[opK,s,z,S]
  (repeat' split)<;>first|exact h0|exact j _
 |box _ x =>
  have e:=k x (by simp[Op.operands]);simp only[opK,e]
  (repeat' split)<;>first|exact h0|exact ha rfl _ _
 |alloc e =>
  simp only[opK]
  (repeat' split)<;>first|exact h0|exact ha rfl _ _
 |build ty ps =>
  have e:=W0 (l:=ps.toList) (t:=t) (t2:=t2) fun x q=>k x (by simpa[Op.operands] using q);simp only[opK,e]
  (repeat' split)<;>first|exact h0|exact j _
 |buildSlice ty n ps=>exact absurd u (by decide:¬2<=1)
 |load ty a =>
  have e:=k a (by simp[Op.operands]);have d:=C rfl a (by simp[Op.operands]);simp only[opK,e];rw[UA d];exact pb2 h0 (qw ..) (qw ..) fun v=>j v
 |nilCheck x =>
  have e:=k x (by simp[Op.operands]);have d:=C rfl x (by simp[Op.operands]);simp only[opK,e]
  cases O:ev t x with
  |optr id g i off =>
   have:=d id (by rw[O]; simp[refs1,Ć]);simp only[this]
   (repeat' split)<;>first|exact h0|exact j _
  |_=>first|exact h0|exact j _
 |binOp op ty x y yt =>
  have s:=k x (by simp[Op.operands]);have z:=k y (by simp[Op.operands]);simp only[opK,s,z]
  split
  ·exact pb2 h0 (vu ..) (vu ..) fun v=>j v
  ·exact pb2 h0 (vL ..) (vL ..) fun v=>j v
 |unOp op ty x =>
  have e:=k x (by simp[Op.operands]);simp only[opK,e]
  (repeat' split)<;>first|exact h0|exact j _|exact pb2 h0 (yb ..) (yb ..) fun v=>j v
 |convert src dst x =>
  have e:=k x (by simp[Op.operands]);have d:=C rfl x (by simp[Op.operands]);simp only[opK,e]
  (repeat' split)<;>first|exact h0|exact j _|(rw[Q3 d]; exact pb2 h0 (ng ..) (ng ..) fun v=>j v)
 |makeFunc fn first captured =>
  have s:=E6 (l:=first.toList) (t:=t) (t2:=t2) fun x q=>k x (by simp[Op.operands]; exact .inl (by simpa using q));have z:=E6 (l:=captured.toList) (t:=t) (t2:=t2) fun x q=>k x (by simp[Op.operands]; exact .inr (by simpa using q));simp only[opK,s,z]
  (repeat' split)<;>first|exact h0|exact j _
 |makeMap ty r =>
  simp only[opK]
  (repeat' split)<;>first|exact h0|exact ha rfl _ _
 |range ty x =>
  have e:=k x (by simp[Op.operands]);simp only[opK,e]
  (repeat' split)<;>first|exact h0|exact ha rfl _ _
 |makeSlice ty l c =>
  have e:=k l (by simp[Op.operands]);simp only[opK,e]
  (repeat' split)<;>first|exact h0|exact ha rfl _ _
 |slice ty x lo hi mx =>
  have e:=k x (by simp[Op.operands]);have d:=C rfl x (by simp[Op.operands])
  have s:lo.map (ev t2)=lo.map (ev t):=by
   cases lo with
   |none=>rfl
   |some l=>simp[k l (by simp[Op.operands])]
  have z:hi.map (ev t2)=hi.map (ev t):=by
   cases hi with
   |none=>rfl
   |some l=>simp[k l (by simp[Op.operands])]
  simp only[opK,e,s,z]
  (repeat' split)<;>first
   |exact h0
   |exact pb2 h0 (hO ..) (hO ..) fun v=>j v
   | (obtain ⟨φ, N, L⟩ := PQ d
      rw[N,L]
      exact pbind h0 fun v=>j v)
 |fieldAddr ty x f =>
  have e:=k x (by simp[Op.operands]);have d:=C rfl x (by simp[Op.operands]);simp only[opK,e]
  (repeat' split)<;>first
   |exact h0
   |(rw[PR d]; exact pb2 h0 (mU ..) (mU ..) fun v=>j v)
 |field ty x f =>
  have e:=k x (by simp[Op.operands]);simp only[opK,e]
  (repeat' split)<;>first|exact h0|exact j _
 |indexAddr ty x i =>
  have s:=k x (by simp[Op.operands]);have z:=k i (by simp[Op.operands]);have d:=C rfl x (by simp[Op.operands]);simp only[opK,s,z]
  (repeat' split)<;>first
   |exact h0
   |exact j _
   |exact pb2 h0 (ο ..) (ο ..) fun v=>j _
   |(rw[QD d]; exact pb2 h0 (m8 ..) (m8 ..) fun v=>j v)
 |index ty x i =>
  have s:=k x (by simp[Op.operands]);have z:=k i (by simp[Op.operands]);simp only[opK,s,z]
  (repeat' split)<;>first|exact h0|exact j _|exact pb2 h0 (hZ ..) (hZ ..) fun v=>j v|exact pb2 h0 (ο ..) (ο ..) fun v=>by(repeat' split)<;>first|exact h0|exact j _
 |lookup ty m i ok =>
  have s:=k m (by simp[Op.operands]);have z:=k i (by simp[Op.operands]);have d:=C rfl m (by simp[Op.operands]);simp only[opK,s,z]
  cases q:ev t m with
  |ofn id =>
   rw[q] at d;simp only;rw[Oh (d id (by simp[refs1,Ć]))];exact pb2 h0 (kI ..) (kI ..) fun v=>j v
  |_ =>
   rw[q] at d;simp only;rw[Og d];exact pb2 h0 (kG ..) (kG ..) fun v=>j v
 |extract x i =>
  have e:=k x (by simp[Op.operands]);simp only[opK,e]
  (repeat' split)<;>first|exact h0|exact j _
 |call c =>
  obtain⟨A,args,tys⟩:=c
  cases A with
  |builtin b =>
   have e:=E6 (l:=args.toList) (t:=t) (t2:=t2) fun x q=>k x (by simpa[Op.operands,Call.operands] using q);have d:cls E (.call ⟨.builtin b,args,tys⟩)=1->∀x∈args.toList,∀id∈refs1 (ev t x),lkB h2 id=lkB h id:=fun h1 x q=>C h1 x (by simpa[Op.operands,Call.operands] using q);generalize G:args.toList=l at e d;generalize q:tys.toList=m
   cases b with
   |append=>simp[cls] at u
   |clear=>simp[cls] at u
   |len =>
    rcases l with _|⟨x,_|⟨y,l⟩⟩<;>rcases m with _|⟨ty,m⟩<;>simp only[opK,G,q]<;>try exact h0
    have s:ev t2 x=ev t x:=by simpa using e
    rw[s,XC (d rfl x (by simp))];exact pb2 h0 (vn ..) (vn ..) fun v=>j v
   |cap =>
    rcases l with _|⟨x,_|⟨y,l⟩⟩<;>rcases m with _|⟨ty,m⟩<;>simp only[opK,G,q]<;>try exact h0
    have s:ev t2 x=ev t x:=by simpa using e
    rw[s]
    (repeat' split)<;>first|exact h0|exact j _
   |min =>
    rcases l with _|⟨x,l⟩<;>simp only[opK,G,q]<;>try exact h0
    simp only[dC,List.cons.injEq] at e;rw[e.1,e.2];exact pb2 h0 (Υ _ _ _ _) (Υ _ _ _ _) fun v=>j v
   |max =>
    rcases l with _|⟨x,l⟩<;>simp only[opK,G,q]<;>try exact h0
    simp only[dC,List.cons.injEq] at e;rw[e.1,e.2];exact pb2 h0 (Υ _ _ _ _) (Υ _ _ _ _) fun v=>j v
   |_=>simp only[opK]; (repeat' split)<;>first|exact h0|contradiction
  |value f=>cases F
  |invoke r m=>exact h0
 |store=>simp[cls] at u
 |mapUpdate=>simp[cls] at u
 |insert=>simp[cls] at u
 |next=>simp[cls] at u
 |_=>exact h0
def aps (ups:y5 (Nat×Blk)) (h:y5 Blk):y5 Blk:=ups.foldl (fun h p=>ã h p.1 p.2) h
def Cn {id:Nat} {B:Blk}:aps [(id,B)] h=ã h id B:=rfl
def jx {u v:y5 (Nat×Blk)}:aps (u++v) h=aps v (aps u h):=by simp[aps]
def qy:∀(ups:y5 (Nat×Blk)) (h:y5 Blk),(aps ups h).length=h.length
 |[],_=>rfl
 |p::ups,h=>by show(aps ups (ã h p.1 p.2)).length=_; rw[qy ups,Ë]
def Kd {id:Nat}:∀{ups:y5 (Nat×Blk)} {h:y5 Blk},(∀p∈ups,p.1≠id)->lkB (aps ups h) id=lkB h id
 |[],_,_=>rfl
 |p::ups,h,b=>by
  show lkB (aps ups (ã h p.1 p.2)) id=_;rw[Kd fun q c=>b q (by simp[c]),Ì _ (Ne.symm (b p (by simp)))]
def vM {id:Nat}:∀{ups:y5 (Nat×Blk)} {h h2:y5 Blk},h2.length=h.length->lkB h2 id=lkB h id->lkB (aps ups h2) id=lkB (aps ups h) id
 |[],_,_,_,b=>b
 |p::ups,h,h2,c,b=>vM (ups:=ups) (h:=ã h p.1 p.2) (h2:=ã h2 p.1 p.2) (by simp[Ë,c]) (by simp only[oR,c,b])
def S7 {v:AV} (i:∀id∈Ć v,lkB h2 id=lkB h id):∃ups,oc h v=aps ups h/\oc h2 v=aps ups h2/\∀p∈ups,p.1∈Ć v:=by
 have c:oc h v=h->oc h2 v=h2->∃ups,oc h v=aps ups h/\oc h2 v=aps ups h2/\∀p∈ups,p.1∈Ć v:=fun h1 d=>⟨[],h1,d,by simp⟩
 cases v with
 |own id g =>
  have e:=i id (by simp[Ć])
  cases b:lkB h id with
  |row t g fz xs =>
   rw[b] at e;exact⟨[(id,.row t g true xs)],by simp only[oc,b]; rfl,by simp only[oc,e]; rfl,by simp[Ć]⟩
  |_=>rw[b] at e; exact c (by simp only[oc,b]) (by simp only[oc,e])
 |sub id g lo n =>
  have e:=i id (by simp[Ć])
  cases b:lkB h id with
  |row t g fz xs =>
   rw[b] at e;exact⟨[(id,.row t g true xs)],by simp only[oc,b]; rfl,by simp only[oc,e]; rfl,by simp[Ć]⟩
  |_=>rw[b] at e; exact c (by simp only[oc,b]) (by simp only[oc,e])
 |_=>exact c rfl rfl
def LB:∀{cs:y5 AV} {h h2:y5 Blk},h2.length=h.length->(∀c∈cs,∀id∈Ć c,lkB h2 id=lkB h id)->∃ups,vT h cs=aps ups h/\vT h2 cs=aps ups h2/\∀p∈ups,∃c∈cs,p.1∈Ć c
 |[],_,_,_,_=>⟨[],rfl,rfl,by simp⟩
 |c::cs,h,h2,j,i=>by
  obtain⟨u,h1,e,n⟩:=S7 (i c (by simp));obtain⟨v,m,l,k⟩:=LB (cs:=cs) (h:=oc h c) (h2:=oc h2 c) (by rw[kM,kM,j]) (fun d hd id hi=>by rw[h1,e]; exact vM j (i d (by simp[hd]) id hi));refine⟨u++v,by simp only[vT]; rw[m,h1,jx],by simp only[vT]; rw[l,e,jx],fun p b=>?_⟩;rcases b8.1 b with b|b
  ·exact⟨c,by simp,n p b⟩
  ·obtain⟨d,hd,hi⟩:=k p b;exact⟨d,by simp[hd],hi⟩
def Lz {v:AV} (k:h2.length=h.length) (j:∀id∈refs1 v,lkB h2 id=lkB h id):∃ups,frz h v=aps ups h/\frz h2 v=aps ups h2/\∀p∈ups,p.1∈refs1 v:=by
 have one:(∀id∈Ć v,lkB h2 id=lkB h id)->∃ups,oc h v=aps ups h/\oc h2 v=aps ups h2/\∀p∈ups,p.1∈Ć v:=S7
 cases v with
 |agg cs =>
  obtain⟨u,h1,d,i⟩:=LB (cs:=cs) k fun c l id hi=>j id (cY.2 ⟨c,l,hi⟩);exact⟨u,h1,d,fun p e=>cY.2 (i p e)⟩
 |fn f a b =>
  obtain⟨u,h1,d,i⟩:=one fun _ hi=>by cases hi
  exact⟨u,h1,d,fun p e=>by cases i p e⟩
 |_=>exact one j
def Cv {ty:Ty} {x:AV} (b:∀id∈refs1 x,lkB h2 id=lkB h id):Ô (.slice ty) [ñ h2 x]=Ô (.slice ty) [ñ h x]:=by
 have:ñ h2 x=ñ h x:=mT fun id hi=>b id (by cases x<;>first|exact hi|simp[Ć] at hi)
 rw[this]
def U7 {v:AV} {vs:y5 AV} (d:Ĥ v=some vs):∀c∈vs,∀id∈Ć c,id∈refs1 v:=by
 intro c b id hi
 cases v<;>simp only[Ĥ,Option.some.injEq,reduceCtorEq] at d<;>subst d
 all_goals first
  |(simp only[ce] at b; subst b; exact hi)
  |(simp only[ce] at b; subst b; cases hi; done)
  |exact cY.2 ⟨c,b,hi⟩
def MC {σ σ2:Type} {R:x9 σ->x9 σ2->Prop} {ty:TypeId} {a v:AV} {K:y5 Blk->x9 σ} {K2:y5 Blk->x9 σ2} (h0:R none none) (d:h2.length=h.length)
 (k:∀id∈refs1 a,lkB h2 id=lkB h id) (n:∀id∈refs1 v,lkB h2 id=lkB h id) (m:∀ups,(∀p∈ups,p.1∈refs1 a\/p.1∈refs1 v)->R (K (aps ups h)) (K2 (aps ups h2))):R (og P h ty a v K) (og P h2 ty a v K2):=by
 unfold og
 split<;>try exact h0
 rename_i vs l
 split<;>try exact h0
 split<;>try exact h0
 ·rename_i id off;have e:=k id (by simp[refs1,Ć]);rw[e]
  (repeat' split)<;>first
   |exact h0
   |exact m [(id,_)] fun p b=>.inl (by simp only[ce] at b; subst b; simp[refs1,Ć])
 ·rename_i id g i off;have e:=k id (by simp[refs1,Ć]);obtain⟨u,s,o,z⟩:=Lz (v:=v) d n
  have B:lkB (frz h2 v) id=lkB (frz h v) id:=by rw[s,o]; exact vM d e
  have A:vs.map (ñ h2)=vs.map (ñ h):=dP fun c y=>mT fun id hi=>n id (U7 l c y id hi);rw[B,A]
  (repeat' split)<;>first
   |exact h0
   | (rw [s, o]
      refine m (u++[(id,_)]) (fun p b=>?_) |> fun q=>(by simpa only[jx,Cn] using q)
      rcases b8.1 b with b|b
      ·exact .inr (z p b)
      ·exact .inl (by simp only[ce] at b; subst b; simp[refs1,Ć]))
 ·rename_i id g i j;have e:=k id (by simp[refs1,Ć]);rw[e]
  (repeat' split)<;>first
   |exact h0
   |exact m [(id,_)] fun p b=>.inl (by simp only[ce] at b; subst b; simp[refs1,Ć])
def SZ:∀{ps:y5 (Nat×AV)} {h h2:y5 Blk},h2.length=h.length->(∀p∈ps,∀id∈refs1 p.2,lkB h2 id=lkB h id)->∃ups,frzA h ps=aps ups h/\frzA h2 ps=aps ups h2/\∀p∈ups,∃q∈ps,p.1∈refs1 q.2
 |[],_,_,_,_=>⟨[],rfl,rfl,by simp⟩
 |(i,v)::ps,h,h2,e,j=>by
  obtain⟨u,h1,b,n⟩:=Lz (v:=v) e (j (i,v) (by simp));obtain⟨w,m,l,k⟩:=SZ (ps:=ps) (h:=frz h v) (h2:=frz h2 v) (by rw[h1,b,qy,qy,e]) (fun q d id hi=>by rw[h1,b]; exact vM e (j q (by simp[d]) id hi));refine⟨u++w,by simp only[frzA]; rw[m,h1,jx],by simp only[frzA]; rw[l,b,jx],fun p c=>?_⟩;rcases b8.1 c with c|c
  ·exact⟨(i,v),by simp,n p c⟩
  ·obtain⟨q,d,hi⟩:=k p c;exact⟨q,by simp[d],hi⟩
def acO {σ σ2:Type} {R:x9 σ->x9 σ2->Prop} {E:Env ρ} {o:Op} {nid:Nat} {eat:Bool} {K:AV->St->x9 σ} {K2:AV->St->x9 σ2} (h0:R none none) (V:cls E o=2) (W:JO o=false) (k:h2.length=h.length) (heat:∀ty n ps,o=.buildSlice ty n ps->eat=false)
 (I:∀x∈o.operands.toList,ev t2 x=ev t x) (O:∀x∈o.operands.toList,∀id∈refs1 (ev t x),lkB h2 id=lkB h id)
 (C:∀v ups,(∀p∈ups,(p.1=nid/\ā E.clone o=true)\/∃x∈o.operands.toList,p.1∈refs1 (ev t x))->R (K v {t:=t,h:=aps ups h}) (K2 v {t:=t2,h:=aps ups h2})) :
 R (opK P {t:=t,h:=h} nid eat o K) (opK P {t:=t2,h:=h2} nid eat o K2):=by
 cases o with
 |buildSlice ty n ps =>
  obtain rfl:=heat ty n ps rfl;have e:=W0 (l:=ps.toList) (t:=t) (t2:=t2) fun x s=>I x (by simpa[Op.operands] using s)
  have hsp:∀p∈ps.toList.map (fun p=>(p.1,ev t p.2)),∀id∈refs1 p.2,lkB h2 id=lkB h id:=fun p d=>by
   obtain⟨q,hq,rfl⟩:=cR.1 d;exact O q.2 (by simpa[Op.operands] using⟨q.1,by simpa using hq⟩)
  have hr:∀ty n,EB h2 ty n (ps.toList.map fun p=>(p.1,ev t p.2))=EB h ty n (ps.toList.map fun p=>(p.1,ev t p.2)):=fun ty n=>IW hsp;obtain⟨u,f1,f2,f3⟩:=SZ k hsp;simp only[opK,e,hr,f1,f2]
  (repeat' split)<;>first
   |exact h0
   | (refine C _ (u ++ [(nid, _)]) (fun p d => ?_) |> fun q => (by simpa only [jx, Cn] using q)
      rcases b8.1 d with d|d
      ·obtain⟨q,hq,hi⟩:=f3 p d;obtain⟨q',hq',rfl⟩:=cR.1 hq;exact .inr ⟨q'.2,by simpa[Op.operands] using⟨q'.1,by simpa using hq'⟩,hi⟩
      ·exact .inl ⟨by simp only[ce] at d; subst d; rfl,rfl⟩)
 |store ty a v =>
  have e1:=I a (by simp[Op.operands]);have e2:=I v (by simp[Op.operands]);have G:=O a (by simp[Op.operands]);have s2:=O v (by simp[Op.operands]);have ma:∀{id:Nat},id∈refs1 (ev t a)->∃x∈(Op.store ty a v).operands.toList,id∈refs1 (ev t x):=fun hi=>⟨a,by simp[Op.operands],hi⟩;have mv:∀{id:Nat},id∈refs1 (ev t v)->∃x∈(Op.store ty a v).operands.toList,id∈refs1 (ev t x):=fun hi=>⟨v,by simp[Op.operands],hi⟩;simp only[opK,e1,e2]
  cases eat with
  |false =>
   simp only;exact MC h0 k G s2 fun ups U=>C _ ups fun p d=>.inr ((U p d).elim ma mv)
  |true =>
   simp only
   cases F:ev t v with
   |sub id g lo n =>
    rw[F] at s2 mv;have Y:=s2 id (by simp[refs1,Ć]);simp only[Y]
    split<;>try exact h0
    split<;>try exact h0
    refine MC h0 (by simp[Ë,k]) (fun j hj=>?_) (fun j hj=>?_) fun ups U=>C _ ((id,_)::ups) fun p d=>.inr ?_
    ·exact vM (ups:=[(id,_)]) k (G j hj)
    ·simp only[refs1,Ć,ce] at hj;subst hj;exact vM (ups:=[(_,_)]) k Y
    ·rcases b9.1 d with rfl|d
     ·exact mv (by simp[refs1,Ć])
     ·rcases U p d with U|U
      ·exact ma U
      ·exact mv (by simpa[refs1,Ć] using U)
   |_=>exact h0
 |mapUpdate ty m i x =>
  have e1:=I m (by simp[Op.operands]);have e2:=I i (by simp[Op.operands]);have Y:=I x (by simp[Op.operands]);have G:=O m (by simp[Op.operands]);have Z:=O x (by simp[Op.operands]);obtain⟨u,f1,f2,f3⟩:=Lz (v:=ev t x) k Z;simp only[opK,e1,e2,Y]
  split
  ·rename_i id s;rw[s] at G;unfold Ş;rw[G id (by simp[refs1,Ć])]
   (repeat' split)<;>first
    |exact h0
    | (refine C _ [(id, _)] (fun p d => ?_) |> fun q => (by simpa only [Cn] using q)
       exact .inr ⟨m,by simp[Op.operands],by simp only[ce] at d; subst d; rw[s]; simp[refs1,Ć]⟩)
  unfold ŝ;rw[yk Z]
  split<;>try exact h0
  split<;>try exact h0
  rename_i id s;rw[s] at G;rw[G id (by simp[refs1,Ć])]
  (repeat' split)<;>first
   |exact h0
   | (rw [f1, f2]
      refine C _ (u++[(id,_)]) (fun p d=>?_) |> fun q=>(by simpa only[jx,Cn] using q)
      rcases b8.1 d with d|d
      ·exact .inr ⟨x,by simp[Op.operands],f3 p d⟩
      ·exact .inr ⟨m,by simp[Op.operands],by simp only[ce] at d; subst d; rw[s]; simp[refs1,Ć]⟩)
 |next x b =>
  have e:=I x (by simp[Op.operands]);have J:=O x (by simp[Op.operands]);simp only[opK,e]
  cases b with
  |false=>exact h0
  |true =>
  simp only;unfold KM
  split<;>try exact h0
  rename_i id F;rw[F] at J;rw[J id (by simp[refs1,Ć])]
  split<;>try exact h0
  split
  ·exact C _ [(id,_)] fun p d=>.inr ⟨x,by simp[Op.operands],by simp only[ce] at d; subst d; rw[F]; simp[refs1,Ć]⟩
  ·exact C _ [] (by simp)
 |insert ty m i x =>
  have e1:=I m (by simp[Op.operands]);have e2:=I i (by simp[Op.operands]);have Y:=I x (by simp[Op.operands]);have G:=O m (by simp[Op.operands]);have Z:=O x (by simp[Op.operands]);obtain⟨u,f1,f2,f3⟩:=Lz (v:=ev t x) k Z;simp only[opK,e1,e2,Y]
  split
  ·rename_i id s;rw[s] at G;unfold Ş;rw[G id (by simp[refs1,Ć])]
   (repeat' split)<;>first
    |exact h0
    | (refine C _ [(id, _)] (fun p d => ?_) |> fun q => (by simpa only [Cn] using q)
       exact .inr ⟨m,by simp[Op.operands],by simp only[ce] at d; subst d; rw[s]; simp[refs1,Ć]⟩)
  unfold ŝ;rw[yk Z]
  split<;>try exact h0
  split<;>try exact h0
  rename_i id s;rw[s] at G;rw[G id (by simp[refs1,Ć])]
  (repeat' split)<;>first
   |exact h0
   | (rw [f1, f2]
      refine C _ (u++[(id,_)]) (fun p d=>?_) |> fun q=>(by simpa only[jx,Cn] using q)
      rcases b8.1 d with d|d
      ·exact .inr ⟨x,by simp[Op.operands],f3 p d⟩
      ·exact .inr ⟨m,by simp[Op.operands],by simp only[ce] at d; subst d; rw[s]; simp[refs1,Ć]⟩)
 |call c =>
  obtain⟨S,args,tys⟩:=c
  cases S with
  |builtin b =>
   have e:=E6 (l:=args.toList) (t:=t) (t2:=t2) fun x s=>I x (by simpa[Op.operands,Call.operands] using s);have N:∀x∈args.toList,∀id∈refs1 (ev t x),lkB h2 id=lkB h id:=fun x s=>O x (by simpa[Op.operands,Call.operands] using s)
   have A:∀x∈args.toList,x∈(Op.call ⟨.builtin b,args,tys⟩).operands.toList:=fun x s=>by simpa[Op.operands,Call.operands] using s
   generalize hl:args.toList=l at e N A;generalize s:tys.toList=m
   cases b with
   |append =>
    rcases l with _|⟨x,_|⟨y,_|⟨z,l⟩⟩⟩<;>rcases m with _|⟨ty,_|⟨ty',_|⟨ty'',m⟩⟩⟩<;>simp only[opK,hl,s]<;>try exact h0
    simp only[dC,List.cons.injEq,eR,and_true] at e;rw[e.1,e.2];have J:=N x (by simp);have sy:=N y (by simp);have T:∀v B,R (K v {t:=t,h:=ã h nid B}) (K2 v {t:=t2,h:=ã h2 nid B}):=fun v B=>C v [(nid,B)] fun p d=>.inl ⟨by simp only[ce] at d; subst d; rfl,rfl⟩
    (repeat' split)<;>first
     |exact h0
     | (unfold sg
        simp only[Cv sy]
        split<;>try exact h0
        split<;>try exact h0
        split<;>try exact h0
        split<;>try exact h0
        split<;>try exact h0
        ·split<;>first|exact h0|exact T _ _
        ·rename_i id g F;rw[F] at J;rw[J id (by simp[refs1,Ć])]
         (repeat' split)<;>first
          |exact h0
          |exact C _ [(id,_)] fun p d=>.inr ⟨x,A x (by simp),by simp only[ce] at d; subst d; rw[F]; simp[refs1,Ć]⟩)
     | (rename_i L g2 hdp
        rw[hdp] at sy;have my:∃q∈(Op.call ⟨.builtin .append,args,tys⟩).operands.toList,L∈refs1 (ev t q):=⟨y,A y (by simp),by rw[hdp]; simp[refs1,Ć]⟩;unfold LN;rw[sy L (by simp[refs1,Ć])]
        split<;>try exact h0
        split<;>try exact h0
        split<;>try exact h0
        split<;>try exact h0
        split<;>try exact h0
        ·split<;>first
          |exact h0
          |exact C _ [(L,_),(nid,_)] fun p d=>by
             simp only[b9,dM,or_false] at d;rcases d with rfl|rfl
             ·exact .inr my
             ·exact .inl ⟨rfl,rfl⟩
        ·rename_i id g F;rw[F] at J;have mx:∃q∈(Op.call ⟨.builtin .append,args,tys⟩).operands.toList,id∈refs1 (ev t q):=⟨x,A x (by simp),by rw[F]; simp[refs1,Ć]⟩;rw[J id (by simp[refs1,Ć])]
         (repeat' split)<;>first
          |exact h0
          |exact C _ [(L,_),(id,_)] fun p d=>by
             simp only[b9,dM,or_false] at d;rcases d with rfl|rfl
             ·exact .inr my
             ·exact .inr mx)
     | (unfold ye
        (repeat' split)<;>first|exact h0|exact T _ _)
   |clear =>
    rcases l with _|⟨x,_|⟨y,l⟩⟩<;>rcases m with _|⟨ty,_|⟨ty',m⟩⟩<;>simp only[opK,hl,s]<;>try exact h0
    simp only[dC,List.cons.injEq,eR,and_true] at e;rw[e];have J:=N x (by simp)
    split<;>try exact h0
    unfold A3
    split<;>try exact h0
    ·exact C _ [] (by simp)
    ·rename_i id g lo n _ F _;rw[F] at J;rw[J id (by simp[refs1,Ć])]
     (repeat' split)<;>first
      |exact h0
      |exact C _ [(id,_)] fun p d=>.inr ⟨x,A x (by simp),by simp only[ce] at d; subst d; rw[F]; simp[refs1,Ć]⟩
   |_=>simp[cls] at V
  |value f=>cases W
  |invoke r m=>simp[cls] at V
 |_=>simp[cls] at V
end
end Go.Am
end

noncomputable section
namespace Go.Am
variable [Globs] [É]
section
variable {ρ:Type} {P:Program} {h h2:y5 Blk} {t t2:y5 AV}
def Pj {ty:Ty} {a:AV} (b:lW h h2 a):ZD h2 ty a=ZD h ty a:=by
 have d:Ry h2 a=Ry h a:=yk b.one
 cases ty with
 |ptr u =>
  cases a with
  |box id off =>
   cases off with
   |zero =>
    have h1:lkB h2 id=lkB h id:=b.one id (by simp[refs1,Ć]);simp only[ZD,h1]
    cases e:lkB h id with
    |cells cs =>
     simp only
     have:cs.map (ñ h2)=cs.map (ñ h):=dP fun c j=>mT fun i hi=>b i (by
      simp only[refs2,b8,cY]
      exact .inr ⟨id,by simp[refs1,Ć],by rw[e]; exact⟨c,j,hi⟩⟩)
     rw[this]
    |_=>rfl
   |succ n=>rfl
  |eptr t' x off=>cases off<;>rfl
  |_=>rfl
 |_=>cases a with
  |dp id g =>
   have h1:lkB h2 id=lkB h id:=b.one id (by simp[refs1,Ć]);simp only[ZD,h1]
  |_=>simp only[ZD,d]
def Kb:∀{l:y5 Ty} {ty:Ty} {as:y5 AV},(∀a∈as,lW h h2 a)->L8 h2 l ty as=L8 h l ty as
 |[],ty,[],_=>rfl
 |[],ty,[a],c=>by simp only[L8]; exact Pj (c a (by simp))
 |[],ty,_::_::_,_=>rfl
 |u::l,ty,[],_=>rfl
 |u::l,ty,a::as,c=>by
  simp only[L8];rw[Pj (c a (by simp)),Kb fun b hb=>c b (by simp[hb])]
def Kc {l:y5 Ty} {as:y5 AV} (b:∀a∈as,lW h h2 a):ya h2 l as=ya h l as:=by
 cases l with
 |nil=>rfl
 |cons ty l=>exact Kb b
def QM {E:Env ρ} {o:Op} (b:∀x∈o.operands.toList,ev t2 x=ev t x):J1 E t2 o=J1 E t o:=by
 unfold J1
 split
 ·rename_i s args tys;rw[b (.tmp s) (by simp[Op.operands,Call.operands])]
 ·rfl
def GU {E:Env ρ} {o:Op} (d:∀x∈o.operands.toList,ev t2 x=ev t x) (e:1<=cls E o->∀x∈o.operands.toList,lW h h2 (ev t x)) :
 jY E {t:=t2,h:=h2} o=jY E {t:=t,h:=h} o:=by
 unfold jY
 split
 ·rename_i i;have b:1<=cls E o:=dl i
  have h1:(o.operands.toList.all fun x=>(refs2 h2 (ev t2 x)).all fun id=>!XK (lkB h2 id))=o.operands.toList.all fun x=>(refs2 h (ev t x)).all fun id=>!XK (lkB h id):=by
   rw[eI];simp only[cr];refine forall_congr' fun x=>forall_congr' fun c=>?_;rw[d x c,(e b x c).refs]
   exact forall_congr' fun id=>forall_congr' fun hi=>by rw[e b x c id hi]
  exact congr (congrArg and h1) (QM d)
 ·rfl
def mI {E:Env ρ} {o:Op} (b:1<=cls E o) {id:Nat}:id∈vU E {t:=t,h:=h} o↔∃x∈o.operands.toList,id∈refs2 h (ev t x):=by
 unfold vU;have:Nat.ble 1 (cls E o)=true:=Nat.ble_eq_true_of_le b;simp only[this,List.mem_flatMap]
def AH {E:Env ρ} {o:Op} (b:cls E o=0) {S:St}:vU E S o=[]:=by
 unfold vU; rw[b]
def Loc (E:Env ρ) (o:Op) (nid:Nat) (t:y5 AV) (h:y5 Blk) (t2:y5 AV) (h2:y5 Blk) (z z2:(AV->St->x9 ρ)->x9 ρ):Prop :=
 ∃φ:x9 (AV×y5 (Nat×Blk)),(∀r,φ=some r->∀p∈r.2,(p.1=nid/\ā E.clone o=true)\/(cls E o=2/\p.1∈vU E {t:=t,h:=h} o)) /\
  (∀K,z K=φ.bind fun r=>K r.1 {t:=t,h:=aps r.2 h})/\∀K,z2 K=φ.bind fun r=>K r.1 {t:=t2,h:=aps r.2 h2}
def Loc.no {E:Env ρ} {o:Op} {nid:Nat} {z z2:(AV->St->x9 ρ)->x9 ρ} (h1:∀K,z K=none) (b:∀K,z2 K=none):Loc E o nid t h t2 h2 z z2 :=
 ⟨none,by simp,fun K=>by rw[h1]; rfl,fun K=>by rw[b]; rfl⟩
def YA {σ σ2:Type} {R:x9 σ->x9 σ2->Prop} {g nid:Nat} {fz:Bool} {x:AV} {K:AV->St->x9 σ} {K2:AV->St->x9 σ2} (h0:R none none) (d:∀id∈refs1 x,lkB h2 id=lkB h id)
 (b:∀v c,R (K v {t:=t,h:=ap nid c h}) (K2 v {t:=t2,h:=ap nid c h2})):R (sP P g fz {t:=t,h:=h} nid x K) (sP P g fz {t:=t2,h:=h2} nid x K2):=by
 simp only[sP,Cv d]
 (repeat' split)<;>first|exact h0|exact b _ none|exact b _ (some _)
def efU (nid:Nat):x9 Blk->y5 (Nat×Blk)
 |none=>[]
 |some B=>[(nid,B)]
def TF {nid:Nat} {b:x9 Blk}:ap nid b h=aps (efU nid b) h:=by cases b<;>rfl
def acy {E:Env ρ} {call:y5 Nat->Bool->Nat->y5 AV->y5 Blk->(AV->y5 Blk->x9 ρ)->x9 ρ} {fid:Nat} {path:y5 Nat} {nid:Nat} {o:Oper}
 (j:Zp E call) (J:cls E o.op<=2) (hlen:h2.length=h.length) (hx:∀x∈o.op.operands.toList,ev t2 x=ev t x) (hs:1<=cls E o.op->∀x∈o.op.operands.toList,lW h h2 (ev t x)) :
 Loc E o.op nid t h t2 h2 (iG E call fid path true {t:=t,h:=h} nid o) (iG E call fid path true {t:=t2,h:=h2} nid o):=by
 have m:=GU hx hs
 cases L:jY E {t:=t,h:=h} o.op with
 |false=>exact .no (fun K=>by simp[gP,L]) (fun K=>by simp[gP,m,L])
 |true =>
  rw[L] at m
  have plain:(∀f args tys,o.op≠.call ⟨.value f,args,tys⟩)->Loc E o.op nid t h t2 h2 (iG E call fid path true {t:=t,h:=h} nid o) (iG E call fid path true {t:=t2,h:=h2} nid o):=by
   intro hno
   have A:∀S:St,jY E S o.op=true->∀K,iG E call fid path true S nid o K=opK E.P S nid (GR E true fid o) o.op K:=fun S Z K=>by
    simp only[gP]
    try simp only[CC]
    simp only[Z,dj,fg,fU]
   have Y:JO o.op=false:=by
    cases I:o.op<;>try rfl
    rename_i c;obtain⟨f,args,tys⟩:=c
    cases f<;>first|rfl|exact absurd I (hno _ _ _)
   have fin:(∃φ:x9 (AV×y5 (Nat×Blk)),(∀r,φ=some r->∀p∈r.2,(p.1=nid/\ā E.clone o.op=true)\/(cls E o.op=2/\p.1∈vU E {t:=t,h:=h} o.op)) /\
    opK E.P {t:=t,h:=h} nid (GR E true fid o) o.op (fun v S=>some (v,S))=φ.map (fun r=>(r.1,({t:=t,h:=aps r.2 h}:St)))/\opK E.P {t:=t2,h:=h2} nid (GR E true fid o) o.op (fun v S=>some (v,S))=φ.map fun r=>(r.1,({t:=t2,h:=aps r.2 h2}:St))) ->
    Loc E o.op nid t h t2 h2 (iG E call fid path true {t:=t,h:=h} nid o) (iG E call fid path true {t:=t2,h:=h2} nid o):=by
    rintro⟨φ,h1,h2',h3⟩;refine⟨φ,h1,fun K=>?_,fun K=>?_⟩
    ·rw[A _ L,KI]; unfold opR; rw[h2']; cases φ<;>rfl
    ·rw[A _ m,KI]; unfold opR; rw[h3]; cases φ<;>rfl
   apply fin
   by_cases h2c:cls E o.op=2
   ·refine acO (P:=E.P) (E:=E) (o:=o.op) (nid:=nid) (σ:=AV×St) (σ2:=AV×St) (K:=fun v S=>some (v,S)) (K2:=fun v S=>some (v,S))
     (R:=fun x y=>∃φ:x9 (AV×y5 (Nat×Blk)),(∀r,φ=some r->∀p∈r.2,(p.1=nid/\ā E.clone o.op=true)\/(cls E o.op=2/\p.1∈vU E {t:=t,h:=h} o.op))/\x=φ.map (fun r=>(r.1,({t:=t,h:=aps r.2 h}:St)))/\y=φ.map fun r=>(r.1,({t:=t2,h:=aps r.2 h2}:St)))
     ⟨none,by simp,rfl,rfl⟩ h2c Y hlen (fun ty n ps I=>by rw[GR,I]; rfl) hx (fun x C=>(hs (by omega) x C).one) fun v ups hu=>⟨some (v,ups),fun r G p k=>?_,rfl,rfl⟩
    cases G;rcases hu p k with hu|⟨x,C,hi⟩
    ·exact .inl hu
    ·exact .inr ⟨h2c,(mI (by omega)).2 ⟨x,C,by simp only[refs2,b8]; exact .inl hi⟩⟩
   ·have hea:GR E true fid o=false:=by
     unfold GR
     cases I:o.op<;>first|rfl|(exfalso; apply h2c; rw[I]; rfl)
    rw[hea]
    refine abU (P:=E.P) (E:=E) (o:=o.op) (nid:=nid) (σ:=AV×St) (σ2:=AV×St) (K:=fun v S=>some (v,S)) (K2:=fun v S=>some (v,S))
     (R:=fun x y=>∃φ:x9 (AV×y5 (Nat×Blk)),(∀r,φ=some r->∀p∈r.2,(p.1=nid/\ā E.clone o.op=true)\/(cls E o.op=2/\p.1∈vU E {t:=t,h:=h} o.op))/\x=φ.map (fun r=>(r.1,({t:=t,h:=aps r.2 h}:St)))/\y=φ.map fun r=>(r.1,({t:=t2,h:=aps r.2 h2}:St)))
     ⟨none,by simp,rfl,rfl⟩ (by omega) Y hx (fun h1 x C=>(hs (by omega) x C).one) fun v ef hef=>⟨some (v,efU nid ef),fun r G p k=>?_,by rw[TF]; rfl,by rw[TF]; rfl⟩
    cases G
    cases ef with
    |none=>cases k
    |some B =>
     simp only[efU,ce] at k;subst k;exact .inl ⟨rfl,hef rfl⟩
  cases I:o.op with
  |call c =>
   obtain⟨f,args,tys⟩:=c
   cases f with
   |value f =>
    cases f with
    |func g =>
     rw[I] at hx hs J;have hxa:∀x∈args.toList,ev t2 x=ev t x:=fun x C=>hx x (by simp[Op.operands,Call.operands]; exact .inr (by simpa using C))
     have e:∀x∈args.toList,x∈(Op.call ⟨.value (.func g),args,tys⟩).operands.toList:=fun x C=>by simp[Op.operands,Call.operands]; exact .inr (by simpa using C)
     have he:=E6 hxa
     cases hc:E.clone g with
     |true =>
      have hcls:cls E (.call ⟨.value (.func g),args,tys⟩)=1:=by simp[cls,hc]
      have A:∀(S:St),jY E S o.op=true->∀K,iG E call fid path true S nid o K=match args.toList with
       |[x]=>sP E.P g (E.eat fid (o.dst.getD 0)) S nid (ev S.t x) K
       |_=>none:=fun S Z K=>by
       simp only[gP]
       try simp only[CC]
       simp only[Z,dj,fg];rw[I];simp only[ev,hc,QB,Bool.and_self];rfl
      generalize hl:args.toList=l at A he hxa e;rcases l with _|⟨x,_|⟨y,l⟩⟩
      ·exact .no (fun K=>A _ L K) (fun K=>A _ m K)
      ·have hsx:=(hs (by omega) x (e x (by simp))).one;have e1:=hxa x (by simp)
       obtain⟨φ,h1,h2',h3⟩:=YA (P:=E.P) (g:=g) (fz:=E.eat fid (o.dst.getD 0)) (nid:=nid) (t:=t) (t2:=t2) (σ:=AV×St) (σ2:=AV×St) (K:=fun v S=>some (v,S)) (K2:=fun v S=>some (v,S))
        (R:=fun x y=>∃φ:x9 (AV×y5 (Nat×Blk)),(∀r,φ=some r->∀p∈r.2,p.1=nid)/\x=φ.map (fun r=>(r.1,({t:=t,h:=aps r.2 h}:St)))/\y=φ.map fun r=>(r.1,{t:=t2,h:=aps r.2 h2}))
        ⟨none,by simp,rfl,rfl⟩ hsx fun v ef=>⟨some (v,efU nid ef),fun r G p k=>by
         cases G
         cases ef with
         |none=>cases k
         |some B=>simp only[efU,ce] at k; rw[k],by rw[TF]; rfl,by rw[TF]; rfl⟩
       refine⟨φ,fun r G p k=>.inl ⟨h1 r G p k,by simpa[ā] using hc⟩,fun K=>?_,fun K=>?_⟩
       ·rw[A _ L];simp only;rw[Cg,h2']
        cases φ<;>rfl
       ·rw[A _ m];simp only[e1];rw[Cg,h3]
        cases φ<;>rfl
      ·exact .no (fun K=>A _ L K) (fun K=>A _ m K)
     |false =>
      have A:∀(S:St),jY E S o.op=true->∀K,iG E call fid path true S nid o K=call path true g (args.toList.map (ev S.t)) S.h fun v h=>K v {t:=S.t,h:=h}:=fun S Z K=>by
       simp only[gP]
       try simp only[CC]
       simp only[Z,dj,fg];rw[I];simp only[ev,hc,QB,fU,dL,cn]
      rcases j with j|⟨j,hse,hce⟩
      ·exact .no (fun K=>by rw[A _ L]; exact j _ _ _ _ _ _) (fun K=>by rw[A _ m]; exact j _ _ _ _ _ _)
      cases k:E.pure g with
      |none =>
       have h1c:1<=cls E (.call ⟨.value (.func g),args,tys⟩):=by simp only[cls,hc,k]; cases E.sort g<;>cases E.compact g<;>simp
       have row:∀(f:y5 Blk->AV->(AV->y5 Blk->x9 ρ)->x9 ρ),(∀S K,jY E S o.op=true->iG E call fid path true S nid o K=match args.toList.map (ev S.t) with|[x]=>f S.h x fun v h=>K v {t:=S.t,h:=h}|_=>none)->cls E (.call ⟨.value (.func g),args,tys⟩)=2 ->
        (∀x,(∀id∈refs1 x,lkB h2 id=lkB h id)->∃φ:x9 (AV×y5 (Nat×Blk)),(∀r,φ=some r->∀p∈r.2,p.1∈refs1 x)/\(∀K,f h x K=φ.bind fun r=>K r.1 (aps r.2 h))/\∀K,f h2 x K=φ.bind fun r=>K r.1 (aps r.2 h2)) ->
        Loc E (.call ⟨.value (.func g),args,tys⟩) nid t h t2 h2 (iG E call fid path true {t:=t,h:=h} nid o) (iG E call fid path true {t:=t2,h:=h2} nid o):=by
        intro f N h2c hloc;generalize hl:args.toList=l at N he e;rcases l with _|⟨x,_|⟨y,l⟩⟩
        ·exact .no (fun K=>N _ K L) (fun K=>N _ K m)
        ·obtain⟨φ,q1,q2,q3⟩:=hloc (ev t x) (hs h1c x (e x (by simp))).one;refine⟨φ,fun r G p k=>.inr ⟨h2c,(mI h1c).2 ⟨x,e x (by simp),by simp only[refs2,b8]; exact .inl (q1 r G p k)⟩⟩,fun K=>?_,fun K=>?_⟩
         ·rw[N _ K L];exact q2 _
         ·rw[N _ K m];simp only[he];exact q3 _
        ·exact .no (fun K=>N _ K L) (fun K=>N _ K m)
       cases U:E.sort g with
       |true =>
        refine row Ko (fun S K Z=>(A S Z K).trans (hse g k U path true _ S.h _)) (by simp[cls,hc,k,U]) fun x hx1=>?_;unfold Ko
        cases x with
        |own id g =>
         have e3:=hx1 id (by simp[refs1,Ć]);simp only[e3]
         cases lkB h id with
         |row ty g' fz xs =>
          cases fz<;>simp only
          ·split
           ·split
            ·split
             ·exact⟨some (_,[(id,_)]),by simp[refs1,Ć],fun K=>rfl,fun K=>rfl⟩
             ·exact⟨none,by simp,fun K=>rfl,fun K=>rfl⟩
            ·exact⟨none,by simp,fun K=>rfl,fun K=>rfl⟩
           ·exact⟨none,by simp,fun K=>rfl,fun K=>rfl⟩
          ·exact⟨none,by simp,fun K=>rfl,fun K=>rfl⟩
         |_=>exact⟨none,by simp,fun K=>rfl,fun K=>rfl⟩
        |nils=>exact⟨some (_,[]),by simp,fun K=>rfl,fun K=>rfl⟩
        |_=>exact⟨none,by simp,fun K=>rfl,fun K=>rfl⟩
       |false =>
        cases hco:E.compact g with
        |true =>
         refine row mN (fun S K Z=>(A S Z K).trans (hce g k U hco path true _ S.h _)) (by simp[cls,hc,k,U,hco]) fun x hx1=>?_;unfold mN
         cases x with
         |own id g =>
          have e3:=hx1 id (by simp[refs1,Ć]);simp only[e3]
          cases lkB h id with
          |row ty g' fz xs =>
           cases fz<;>simp only
           ·split
            ·split
             ·split
              ·exact⟨some (_,[(id,_)]),by simp[refs1,Ć],fun K=>rfl,fun K=>rfl⟩
              ·exact⟨none,by simp,fun K=>rfl,fun K=>rfl⟩
             ·exact⟨none,by simp,fun K=>rfl,fun K=>rfl⟩
            ·exact⟨none,by simp,fun K=>rfl,fun K=>rfl⟩
           ·exact⟨none,by simp,fun K=>rfl,fun K=>rfl⟩
          |_=>exact⟨none,by simp,fun K=>rfl,fun K=>rfl⟩
         |nils=>exact⟨some (_,[]),by simp,fun K=>rfl,fun K=>rfl⟩
         |_=>exact⟨none,by simp,fun K=>rfl,fun K=>rfl⟩
        |false=>simp[cls,hc,k,U,hco] at J
      |some p =>
       have h1c:1<=cls E (.call ⟨.value (.func g),args,tys⟩):=by simp only[cls,hc,k]; cases E.fz g<;>simp
       have hsa:∀a∈args.toList.map (ev t),lW h h2 a:=fun a ha=>by
        obtain⟨x,C,rfl⟩:=cR.1 ha;exact hs h1c x (e x C)
       obtain⟨u,f1,f2,f3⟩:=LB (cs:=(args.toList.map (ev t)).flatMap jZ) hlen fun c hcm id hi=>by
        obtain⟨a,ha,z⟩:=cY.1 hcm;refine(hsa a ha).one id ?_
        cases a<;>first
         |(simp only[jZ,ce] at z; subst z; exact hi)
         |(simp only[jZ,ce] at z; subst z; cases hi; done)
         |exact cY.2 ⟨c,z,hi⟩
       have f3':∀q∈u,∃x∈args.toList,q.1∈refs2 h (ev t x):=fun q hq=>by
        obtain⟨c,hcm,hi⟩:=f3 q hq;obtain⟨a,ha,z⟩:=cY.1 hcm;obtain⟨x,C,rfl⟩:=cR.1 ha;refine⟨x,C,?_⟩;simp only[refs2,b8];left;generalize ev t x=a at z
        cases a<;>first
         |(simp only[jZ,ce] at z; subst z; exact hi)
         |(simp only[jZ,ce] at z; subst z; cases hi; done)
         |exact cY.2 ⟨c,z,hi⟩
       have V:∀(b:Bool) (h':y5 Blk),ya h' p.ts (args.toList.map (ev t))=ya h p.ts (args.toList.map (ev t))->vT h' ((args.toList.map (ev t)).flatMap jZ)=aps u h'->∀(K:AV->y5 Blk->x9 ρ),
        Kw b p h' (args.toList.map (ev t)) K=(match ya h p.ts (args.toList.map (ev t)) with
        |some x=>(p.F x).bind fun y=>match EH (Pz p.rs y) with
         |true=>some (Pz p.rs y,[])
         |false=>match (args.toList.map (ev t)).all (fun a=>!Ho a) with
          |true=>some (Pz p.rs y,[])
          |false=>match b||!(args.toList.map (ev t)).all WQ with
           |true=>none
           |false=>some (Pz p.rs y,u)
        |none=>none).bind fun r=>K r.1 (aps r.2 h'):=fun b h' ha N K=>by
        unfold Kw Ã;rw[ha,N]
        cases ya h p.ts (args.toList.map (ev t)) with
        |none=>rfl
        |some x =>
         simp only
         cases p.F x with
         |none=>rfl
         |some y =>
          simp only[dI]
          cases EH (Pz p.rs y) with
          |true=>rfl
          |false=>cases(args.toList.map (ev t)).all (fun a=>!Ho a) with
           |true=>rfl
           |false=>cases b||!(args.toList.map (ev t)).all WQ<;>rfl
       refine⟨_,?_,fun K=>(A _ L K).trans ((j g p k path true _ h _).trans (V (true&&!E.fz g) h rfl f1 _)),fun K=>(A _ m K).trans (by simp only[he]; exact(j g p k path true _ h2 _).trans (V (true&&!E.fz g) h2 (Kc hsa) f2 _))⟩;intro r d q hq
       have hcase:r.2=[]\/(E.fz g=true/\r.2=u):=by
        cases hA:ya h p.ts (args.toList.map (ev t)) with
        |none=>rw[hA] at d; cases d
        |some x =>
         rw[hA] at d;simp only at d
         cases hF:p.F x with
         |none=>rw[hF] at d; cases d
         |some y =>
          rw[hF] at d;simp only[dI] at d
          split at d
          ·cases d; exact .inl rfl
          ·split at d
           ·cases d; exact .inl rfl
           ·split at d
            ·cases d
            ·rename_i hb;cases d;simp only[dk,fG,eA] at hb;exact .inr ⟨hb.1,rfl⟩
       rcases hcase with hz|⟨hfz,hz⟩
       ·rw[hz] at hq; cases hq
       ·rw[hz] at hq;obtain⟨x,C,hi⟩:=f3' q hq;exact .inr ⟨by simp[cls,hc,k,hfz],(mI h1c).2 ⟨x,e x C,hi⟩⟩
    |tmp s =>
     rw[I] at hx hs J
     obtain⟨g,hg⟩:∃g,E.hint s=some g:=by
      cases hh:E.hint s with
      |none=>simp[cls,hh] at J
      |some g=>exact⟨g,rfl⟩
     have hpf:(E.pure g).isSome=true/\E.fz g=false:=by
      simp only[cls,hg] at J
      split at J
      ·rename_i hb; simpa using hb
      ·omega
     obtain⟨hpg,hfz⟩:=hpf;obtain⟨p,k⟩:=fi.1 hpg
     have hcls:cls E (.call ⟨.value (.tmp s),args,tys⟩)=1:=by simp[cls,hg,k,hfz]
     have e:∀x∈args.toList,x∈(Op.call ⟨.value (.tmp s),args,tys⟩).operands.toList:=fun x C=>by simp[Op.operands,Call.operands]; exact .inr (by simpa using C)
     have hms:Operand.tmp s∈(Op.call ⟨.value (.tmp s),args,tys⟩).operands.toList:=by simp[Op.operands,Call.operands]
     have he:=E6 fun x C=>hx x (e x C)
     have W:J1 E t (.call ⟨.value (.tmp s),args,tys⟩)=true:=by
      have h1:=L;unfold jY at h1;rw[I] at h1
      have hb1:Nat.ble 1 (cls E (.call ⟨.value (.tmp s),args,tys⟩))=true:=by rw[hcls]; rfl
      simp only[hb1,bZ] at h1;exact h1.2
     simp only[J1,hg] at W
     split at W<;>try (cases W; done)
     rename_i g' T O hfn;simp only[bZ,cr] at W;obtain⟨hgg,hna,hnb⟩:=W;have hgg:g'=g:=cd hgg;subst hgg;have hfn2:=(hx _ hms).trans hfn
     have A:∀(S:St),jY E S o.op=true->ev S.t (.tmp s)=.fn (.func g') T O->∀K,iG E call fid path true S nid o K=call path true g' (T++(args.toList.map (ev S.t)++O)) S.h fun v h=>K v {t:=S.t,h:=h}:=fun S Z hSf K=>by
      simp only[gP]
      try simp only[CC]
      simp only[Z,dj,fg];rw[I];simp only[hSf,QB,fg]
     rcases j with j|⟨j,hse,hce⟩
     ·exact .no (fun K=>by rw[A _ L hfn]; exact j _ _ _ _ _ _) (fun K=>by rw[A _ m hfn2]; exact j _ _ _ _ _ _)
     have hcap:∀v,(v∈T\/v∈O)->ac0 v=true->lW h h2 v:=fun v hv hn id hi=>by
      refine hs (by omega) _ hms id ?_;rw[hfn]
      have e1:Go.Am.refs1 v=We v:=by cases v<;>first|rfl|cases hn
      simp only[refs2,b8,cY,e1] at hi ⊢
      have hsub:∀i,i∈We v->i∈Go.Am.refs1 (.fn (.func g') T O):=fun i hi=>by
       simp only[Go.Am.refs1,b8,cY];exact hv.imp (fun h=>⟨v,h,hi⟩) fun h=>⟨v,h,hi⟩
      rcases hi with hi|⟨i,hi,q⟩
      ·exact .inl (hsub _ hi)
      ·exact .inr ⟨i,hsub _ hi,q⟩
     have hsa:∀a∈T++(args.toList.map (ev t)++O),lW h h2 a:=fun a ha=>by
      rcases b8.1 ha with ha|ha
      ·exact hcap a (.inl ha) (hna a ha)
      ·rcases b8.1 ha with ha|ha
       ·obtain⟨x,C,rfl⟩:=cR.1 ha;exact hs (by omega) x (e x C)
       ·exact hcap a (.inr ha) (hnb a ha)
     have V:∀(h':y5 Blk),ya h' p.ts (T++(args.toList.map (ev t)++O))=ya h p.ts (T++(args.toList.map (ev t)++O))->∀(K:AV->y5 Blk->x9 ρ),
      Kw (true&&!E.fz g') p h' (T++(args.toList.map (ev t)++O)) K=(match ya h p.ts (T++(args.toList.map (ev t)++O)) with
      |some x=>(p.F x).bind fun y=>match EH (Pz p.rs y) with
       |true=>some (Pz p.rs y,([]:y5 (Nat×Blk)))
       |false=>match (T++(args.toList.map (ev t)++O)).all (fun a=>!Ho a) with
        |true=>some (Pz p.rs y,[])
        |false=>none
      |none=>none).bind fun r=>K r.1 (aps r.2 h'):=fun h' ha K=>by
      unfold Kw Ã;rw[ha,hfz]
      cases ya h p.ts (T++(args.toList.map (ev t)++O)) with
      |none=>rfl
      |some x =>
       simp only
       cases p.F x with
       |none=>rfl
       |some y =>
        simp only[dI]
        cases EH (Pz p.rs y) with
        |true=>rfl
        |false=>cases(T++(args.toList.map (ev t)++O)).all (fun a=>!Ho a)<;>rfl
     refine⟨_,?_,fun K=>(A _ L hfn K).trans ((j g' p k path true _ h _).trans (V h rfl _)),fun K=>(A _ m hfn2 K).trans (by simp only[he]; exact(j g' p k path true _ h2 _).trans (V h2 (Kc hsa) _))⟩;intro r d q hq;exfalso
     cases hA:ya h p.ts (T++(args.toList.map (ev t)++O)) with
     |none=>rw[hA] at d; cases d
     |some x =>
      rw[hA] at d;simp only at d
      cases hF:p.F x with
      |none=>rw[hF] at d; cases d
      |some y =>
       rw[hF] at d;simp only[dI] at d
       split at d
       ·cases d; cases hq
       ·split at d<;>cases d
        cases hq
    |_=>rw[I] at J; simp[cls] at J
   |_=>exact I▸plain fun _ _ _ N=>by rw[I] at N; cases N
  |_=>exact I▸plain fun _ _ _ N=>by rw[I] at N; cases N
def acs {l:y5 Operand} (c:∀s∈IK l,lk t2 s=lk t s):∀x∈l,ev t2 x=ev t x:=by
 induction l with
 |nil=>intro x b; cases b
 |cons y l d =>
  intro x b;rcases b9.1 b with rfl|b
  ·cases x with
   |tmp i=>exact c i (by simp[IK])
   |_=>rfl
  ·refine d (fun s e=>c s ?_) x b
   cases y<;>simp[IK,e]
def Rq:∀(t:y5 AV) {d c:Nat} (v b:AV),d≠c->upd (upd t d v) c b=upd (upd t c b) d v
 |[],_,_,_,_,_=>rfl
 |_::_,0,0,_,_,h=>absurd rfl h
 |_::_,0,_+1,_,_,_=>rfl
 |_::_,_+1,0,_,_,_=>rfl
 |x::t,d+1,c+1,v,b,h=>by simp only[Ms,Mu,Mr]; rw[Rq t v b (by omega)]
def Mw:∀(t:y5 Blk) {d c:Nat} (v b:Blk),d≠c->ã (ã t d v) c b=ã (ã t c b) d v
 |[],_,_,_,_,_=>rfl
 |_::_,0,0,_,_,h=>absurd rfl h
 |_::_,0,_+1,_,_,_=>rfl
 |_::_,_+1,0,_,_,_=>rfl
 |x::t,d+1,c+1,v,b,h=>by simp only[Ct,Cu,Cs]; rw[Mw t v b (by omega)]
def Ey {c b:x9 Nat} (hd:∀x,c=some x->b≠some x) (e d:AV):ò (ò t c e) b d=ò (ò t b d) c e:=by
 cases c with
 |none=>rfl
 |some x=>cases b with
  |none=>rfl
  |some y=>exact Rq t e d fun h=>hd x rfl (by rw[h])
def tv {d:x9 Nat} {s:Nat} (hd:d≠some s) (v:AV):lk (ò t d v) s=lk t s:=by
 cases d with
 |none=>rfl
 |some x =>
  simp only[ò,SG];rw[if_neg];rintro⟨rfl,_⟩;exact hd rfl
def TE:∀{u v:y5 (Nat×Blk)} {h:y5 Blk},(∀p∈u,∀q∈v,p.1≠q.1)->aps v (aps u h)=aps u (aps v h)
 |[],_,_,_=>rfl
 |p::u,v,h,c=>by
  show aps v (aps u (ã h p.1 p.2))=aps u (ã (aps v h) p.1 p.2);rw[TE fun q b=>c q (by simp[b])];congr 1
  have:∀(v:y5 (Nat×Blk)) (h:y5 Blk),(∀q∈v,p.1≠q.1)->aps v (ã h p.1 p.2)=ã (aps v h) p.1 p.2:=by
   intro v
   induction v with
   |nil=>intro h _; rfl
   |cons q v d =>
    intro h b;show aps v (ã (ã h p.1 p.2) q.1 q.2)=ã (aps v (ã h q.1 q.2)) p.1 p.2;rw[Mw _ _ _ (b q (by simp)),d _ fun r e=>b r (by simp[e])]
  exact this v h (c p (by simp))
def Ř (all:y5 Oper) (o:Oper) (t:y5 AV):x9 Bool :=
 match o.guard with
 |none=>some true
 |some (j,want)=>match lk t (mH all j) with
  |.bool b=>some (b==want)
  |.und=>some false
  |_=>none
def s8 (E:Env ρ) (all:y5 Oper) (o:Oper) (S:St):y5 Nat :=
 match Ř all o S.t with
 |some true=>vU E S o.op
 |_=>[]
def sS (E:Env ρ) (call:y5 Nat->Bool->Nat->y5 AV->y5 Blk->(AV->y5 Blk->x9 ρ)->x9 ρ) (fid:Nat) (path:y5 Nat) (all:y5 Oper) (b:y5 Nat) (acc:y5 (Nat×y5 Nat)) (i nid:Nat) (o:Oper) (S:St) (K:y5 Nat->St->x9 ρ):x9 ρ :=
 match Ř all o S.t==some true&&!chk E all b acc i (vU E S o.op) with
 |true=>none
 |false=>np E call fid path true all i nid o S (K (s8 E all o S))
def Wz {E:Env ρ} {call:y5 Nat->Bool->Nat->y5 AV->y5 Blk->(AV->y5 Blk->x9 ρ)->x9 ρ} {fid:Nat} {path:y5 Nat} {all:y5 Oper} {c:y5 Nat} {o:Oper} {os:y5 Oper} {i nid:Nat} {acc:y5 (Nat×y5 Nat)} {S:St} {K:St->x9 ρ} :
 WB E call fid path all c (o::os) i nid acc S K=sS E call fid path all c acc i nid o S fun F m=>WB E call fid path all c os (i+1) (bif ā E.clone o.op then nid+1 else nid) ((i,F)::acc) m K:=by
 have k:∀d b,lk S.t d=.bool b->({t:=upd S.t d (.bool b),h:=S.h}:St)=S:=fun d b hb=>by rw[<-hb,yf]
 have e:∀d b,lk S.t d=.bool b->upd S.t d (.bool b)=S.t:=fun d b hb=>by rw[<-hb,yf]
 simp only[WB,sS,np,s8,Ř]
 cases o.guard with
 |none=>cases chk E all c acc i (vU E S o.op)<;>rfl
 |some g =>
  obtain⟨j,l⟩:=g;simp only
  cases hb:lk S.t (mH all j)<;>try rfl
  rename_i b;have h1:=k _ b hb;have h2:=e _ b hb
  cases b<;>cases l<;>simp only[h1,h2]<;>first
   |rfl
   |(cases chk E all c acc i (vU E S o.op)<;>rfl)
def AI {E:Env ρ} {o:Op} (i:∀x∈o.operands.toList,ev t2 x=ev t x) (j:1<=cls E o->∀x∈o.operands.toList,lW h h2 (ev t x)):vU E {t:=t2,h:=h2} o=vU E {t:=t,h:=h} o:=by
 unfold vU
 split
 ·rename_i k;have c:1<=cls E o:=dl k
  have:∀l:y5 Operand,(∀x∈l,x∈o.operands.toList)->(l.flatMap fun x=>refs2 h2 (ev t2 x))=l.flatMap fun x=>refs2 h (ev t x):=by
   intro l
   induction l with
   |nil=>intro _; rfl
   |cons x l d =>
    intro b;simp only[cH];rw[i x (b x (by simp)),(j c x (b x (by simp))).refs,d fun y e=>b y (by simp[e])]
  exact this _ fun _ h=>h
 ·rfl
def CB {all:y5 Oper} {o:Oper} (b:∀s∈Ο all o,lk t2 s=lk t s):∀x∈o.op.operands.toList,ev t2 x=ev t x:=acs fun s c=>b s (by simp only[Ο,b8]; exact .inr c)
def gw {all:y5 Oper} {o:Oper} (c:∀s∈Ο all o,lk t2 s=lk t s):Ř all o t2=Ř all o t:=by
 unfold Ř
 cases d:o.guard with
 |none=>rfl
 |some g =>
  obtain⟨j,b⟩:=g;simp only;rw[c _ (by simp[Ο,d])]
def ZG {E:Env ρ} {o:Op} (d:1<=cls E o) (b:jY E {t:=t,h:=h} o=true):∀id∈vU E {t:=t,h:=h} o,lkB h id≠.dead:=fun id hi hd=>by
 obtain⟨x,e,hi⟩:=(mI d).1 hi;unfold jY at b;have c:Nat.ble 1 (cls E o)=true:=Nat.ble_eq_true_of_le d;simp only[c,Bool.and_eq_true,List.all_eq_true] at b;have:=b.1 x e id hi;rw[hd] at this;cases this
def DP {E:Env ρ} {call:y5 Nat->Bool->Nat->y5 AV->y5 Blk->(AV->y5 Blk->x9 ρ)->x9 ρ} {fid:Nat} {path:y5 Nat} {all:y5 Oper} {i nid:Nat} {o:Oper} (I:ρ)
 (A:Zp E call) (C:cls E o.op<=2) (q:h2.length=h.length) (F:∀s∈Ο all o,lk t2 s=lk t s)
 (L:Ř all o t=some true->1<=cls E o.op->∀x∈o.op.operands.toList,lW h h2 (ev t x)) :
 ∃φ:x9 (AV×y5 (Nat×Blk)),(∀r,φ=some r->∀p∈r.2,(p.1=nid/\ā E.clone o.op=true)\/(cls E o.op=2/\p.1∈s8 E all o {t:=t,h:=h})) /\
  (∀r,φ=some r->∀id∈s8 E all o {t:=t,h:=h},lkB h id≠.dead) /\
  (∀K,np E call fid path true all i nid o {t:=t,h:=h} K=φ.bind fun r=>K {t:=ò t o.dst r.1,h:=aps r.2 h}) /\
  ∀K,np E call fid path true all i nid o {t:=t2,h:=h2} K=φ.bind fun r=>K {t:=ò t2 o.dst r.1,h:=aps r.2 h2}:=by
 have J:=CB (t:=t) (t2:=t2) (o:=o) F;have d:=gw (t:=t) (t2:=t2) (o:=o) F
 cases e:Ř all o t with
 |none =>
  rw[e] at d
  have:∀(S:St),Ř all o S.t=none->∀K,np E call fid path true all i nid o S K=none:=fun S c K=>by
   unfold Ř at c;unfold np
   cases l:o.guard with
   |none=>rw[l] at c; cases c
   |some g =>
    obtain⟨j,k⟩:=g;rw[l] at c;simp only at c ⊢
    cases hb:lk S.t (mH all j)<;>rw[hb] at c<;>first|rfl|cases c
  exact⟨none,by simp,by simp,fun K=>this _ e K,fun K=>this _ d K⟩
 |some b =>
  cases b with
  |false =>
   rw[e] at d
   have:∀(S:St),Ř all o S.t=some false->∀K,np E call fid path true all i nid o S K=K {t:=ò S.t o.dst .und,h:=S.h}:=fun S c K=>by
    unfold Ř at c;unfold np
    cases l:o.guard with
    |none=>rw[l] at c; cases c
    |some g =>
     obtain⟨j,k⟩:=g;rw[l] at c;simp only at c ⊢
     cases hb:lk S.t (mH all j)<;>rw[hb] at c<;>first|rfl|(cases c; done)|skip
     simp only[Option.some.injEq] at c ⊢;rw[c]
   refine⟨some (.und,[]),?_,?_,fun K=>this _ e K,fun K=>this _ d K⟩
   ·intro r m p B;cases m;cases B
   ·intro r m id hi;simp only[s8,e] at hi;cases hi
  |true =>
   rw[e] at d
   have n:∀(S:St),Ř all o S.t=some true->∀K,np E call fid path true all i nid o S K=iG E call fid (path++[i]) true S nid o fun v S=>K {t:=ò S.t o.dst v,h:=S.h}:=fun S c K=>by
    unfold Ř at c;unfold np
    cases l:o.guard with
    |none=>rfl
    |some g =>
     obtain⟨j,k⟩:=g;rw[l] at c;simp only at c ⊢
     cases hb:lk S.t (mH all j)<;>rw[hb] at c<;>first|(cases c; done)|skip
     simp only[Option.some.injEq] at c ⊢;rw[c]
   obtain⟨φ,h1,y,O⟩:=acy (fid:=fid) (path:=path++[i]) (nid:=nid) A C q J (L e)
   have u:s8 E all o {t:=t,h:=h}=vU E {t:=t,h:=h} o.op:=by simp only[s8,e]
   refine⟨φ,fun r m p B=>?_,fun r m id hi=>?_,fun K=>by rw[n _ e,y],fun K=>by rw[n _ d,O]⟩
   ·rw[u]; exact h1 r m p B
   ·rw[u] at hi
    by_cases N:1<=cls E o.op
    ·refine ZG N ?_ id hi
     cases z:jY E {t:=t,h:=h} o.op with
     |true=>rfl
     |false =>
      exfalso;have G:=y fun v S=>some I;rw[m] at G;simp[gP,z] at G
    ·rw[AH (by omega)] at hi;cases hi
def uH:∀{l m:y5 Nat},disj l m=true↔∀x∈l,x∉m
 |[],m=>by simp[disj]
 |x::l,m=>by
  simp only[disj,bZ,dE,dK,b9,forall_eq_or_imp,uH (l:=l)];refine and_congr_left fun _=>⟨fun h c=>h x c (Nat.beq_refl x),fun h y b d=>?_⟩;have:=cd d;subst this;exact h b
structure abL (E:Env ρ) (all:y5 Oper) (bef:y5 Nat) (ia ib:Nat) (a b:Oper):Prop where
 ha:all[ia]?=some a
 hb:all[ib]?=some b
 a3:cls E a.op<=2
 b3:cls E b.op<=2\/cls E a.op=0
 rb:∀s∈Ο all b,a.dst≠some s
 ra:∀s∈Ο all a,b.dst≠some s
 dd:∀x,a.dst=some x->b.dst≠some x
 bab:(bef.getD ib 0).testBit ia=false
 bba:(bef.getD ia 0).testBit ib=false
def Yy (E:Env ρ) (o:Op):cls E o<=3:=by
 cases o with
 |call c =>
  obtain⟨f,args,tys⟩:=c
  cases f with
  |value f=>cases f<;>simp only[cls]<;>(repeat' split)<;>omega
  |builtin b=>cases b<;>simp[cls]
  |_=>simp[cls]
 |_=>simp[cls]
def QR {E:Env ρ} {all:y5 Oper} {c:y5 Nat} {ia ib:Nat} {a b:Oper} (e:aba E all a b=false) (ha:all[ia]?=some a) (hb:all[ib]?=some b) (h1:(c.getD ib 0).testBit ia=false) (h2:(c.getD ia 0).testBit ib=false):abL E all c ia ib a b:=by
 unfold aba at e;simp only[Bool.or_eq_false_iff,beq_eq_false_iff_ne] at e;obtain⟨⟨⟨⟨_,z,j⟩,m⟩,l⟩,k⟩:=e;have y:=Yy E a.op;have v:=Yy E b.op
 have i:cls E b.op<=2\/cls E a.op=0:=by
  by_cases u:cls E b.op=3
  ·rw[u] at j;right
   by_cases q:1<=cls E a.op
   ·rw[f9 q] at j; cases j
   ·omega
  ·left; omega
 refine⟨ha,hb,by omega,i,fun s d hd=>?_,fun s d hd=>?_,fun x o n=>?_,h1,h2⟩
 ·rw[hd] at m;simp[aau,d] at m
 ·rw[hd] at l;simp[aau,d] at l
 ·rw[o,n] at k;simp at k
def yz {E:Env ρ} {all:y5 Oper} {c:y5 Nat} {j i:Nat} {a b:Oper} {e k:y5 Nat} (d:yA E all c j i e k=true) (ha:all[j]?=some a) (hb:all[i]?=some b) (h1:(c.getD j 0).testBit i=false) (h2:(c.getD i 0).testBit j=false)
 (l:xd E a.op b.op=true):∀x∈e,x∉k:=by
 unfold yA at d;simp only[ha,hb,l,h1,h2,Bool.not_true,Bool.false_or,Bool.or_false] at d;exact uH.1 d
def QS {E:Env ρ} {a b:Op}:xd E a b=xd E b a:=by
 unfold xd; cases cls E a==2<;>cases cls E b==2<;>cases Nat.ble 1 (cls E a)<;>cases Nat.ble 1 (cls E b)<;>rfl
def P4 {E:Env ρ} {all:y5 Oper} {d:y5 Nat} {j i:Nat} {e k:y5 Nat} (c:yA E all d j i e k=true):yA E all d i j k e=true:=by
 unfold yA at c ⊢;rw[Bool.or_eq_true] at c ⊢;rcases c with c|c
 ·exact .inl (uH.2 fun x m l=>uH.1 c x l m)
 refine .inr ?_
 cases ha:all[j]? with
 |none=>rw[ha] at c; cases c
 |some a=>cases hb:all[i]? with
  |none=>rw[ha,hb] at c; cases c
  |some b =>
   rw[ha,hb] at c;simp only[Bool.or_eq_true,dE] at c ⊢;rw[QS];rcases c with c|c|c
   ·exact .inl c
   ·exact .inr (.inr c)
   ·exact .inr (.inl c)
def nc {E:Env ρ} {a b:Op}:xd E a b=true↔(cls E a=2/\1<=cls E b)\/(1<=cls E a/\cls E b=2):=by
 unfold xd;simp only[Bool.or_eq_true,Bool.and_eq_true,beq_iff_eq,Nat.ble_eq]
def mO {E:Env ρ} {all:y5 Oper} {b:y5 Nat} {acc:y5 (Nat×y5 Nat)} {p:Nat×y5 Nat} {i:Nat} {F:y5 Nat}:chk E all b (p::acc) i F=(yA E all b p.1 i p.2 F&&chk E all b acc i F):=by
 simp[chk]
def BA {E:Env ρ} {all:y5 Oper} {c:y5 Nat} {j i:Nat} {a b:Oper} {d:y5 Nat} (ha:all[j]?=some a) (hb:all[i]?=some b):yA E all c j i d []=true:=by
 unfold yA;rw[Bool.or_eq_true];exact .inl (uH.2 fun x _=>by simp)
def Gw {E:Env ρ} {all:y5 Oper} {o:Oper} (c:∀s∈Ο all o,lk t2 s=lk t s) (e:Ř all o t=some true->1<=cls E o.op->∀x∈o.op.operands.toList,lW h h2 (ev t x)):s8 E all o {t:=t2,h:=h2}=s8 E all o {t:=t,h:=h}:=by
 unfold s8;simp only[gw (t:=t) (t2:=t2) c]
 cases d:Ř all o t with
 |none=>rfl
 |some b=>cases b with
  |false=>rfl
  |true=>exact AI (CB c) (e d)
def UZ {E:Env ρ} {o:Op} (h:cls E o=0):ā E.clone o=false:=by
 cases o with
 |call c =>
  obtain⟨f,args,tys⟩:=c
  cases f with
  |value f=>cases f<;>simp only[cls] at h<;>(repeat' split at h)<;>first|omega|rfl|(cases h; done)
  |builtin b=>cases b<;>simp[cls] at h
  |_=>simp[cls] at h
 |_=>first|rfl|(simp[cls] at h; done)
def Yz {E:Env ρ} {o:Op} (h:cls E o=0):JO o=false:=by
 cases o with
 |call c =>
  obtain⟨f,args,tys⟩:=c
  cases f with
  |value f=>cases f<;>simp only[cls] at h<;>(repeat' split at h)<;>first|omega|(cases h; done)
  |_=>rfl
 |_=>rfl
def Z2 {E:Env ρ} {call:y5 Nat->Bool->Nat->y5 AV->y5 Blk->(AV->y5 Blk->x9 ρ)->x9 ρ} {fid:Nat} {path:y5 Nat} {nid:Nat} {o:Oper} (d:cls E o.op=0) :
 ∃φ:x9 AV,∀(t2:y5 AV) (h2:y5 Blk),(∀x∈o.op.operands.toList,ev t2 x=ev t x)->∀K,iG E call fid path true {t:=t2,h:=h2} nid o K=φ.bind fun v=>K v {t:=t2,h:=h2}:=by
 have b:=Yz d;have k:=UZ d
 have n:∀S:St,∀K,iG E call fid path true S nid o K=opK E.P S nid false o.op K:=fun S K=>by
  have m:jY E S o.op=true:=by
   unfold jY
   have:Nat.ble 1 (cls E o.op)=false:=by rw[d]; rfl
   rw[this]
  have j:GR E true fid o=false:=by
   unfold GR
   cases q:o.op<;>first|rfl|(rw[q] at d; simp[cls] at d; done)
  simp only[gP]
  try simp only[CC]
  simp only[m,j,dj,fg]
  cases i:o.op with
  |call c =>
   obtain⟨f,args,tys⟩:=c;rw[i] at b
   cases f with
   |value f=>cases b
   |_=>rfl
  |_=>rfl
 refine⟨opK E.P {t:=t,h:=[]} nid false o.op fun v _=>some v,fun t2 h2 l K=>?_⟩;rw[n,KI]
 have:=abU (P:=E.P) (E:=E) (o:=o.op) (nid:=nid) (σ:=AV) (σ2:=AV×St) (t:=t) (t2:=t2) (h:=[]) (h2:=h2) (K:=fun v _=>some v) (K2:=fun v S=>some (v,S)) (R:=fun x y=>y=x.map fun v=>(v,({t:=t2,h:=h2}:St)))
  rfl (by omega) b l (fun h1=>by omega) fun v s e=>by
   cases s with
   |none=>rfl
   |some B=>rw[k] at e; exact absurd (e rfl) (by simp)
 unfold opR;rw[this]
 cases opK E.P {t:=t,h:=[]} nid false o.op (fun v _=>some v)<;>rfl
def VS {E:Env ρ} {call:y5 Nat->Bool->Nat->y5 AV->y5 Blk->(AV->y5 Blk->x9 ρ)->x9 ρ} {fid:Nat} {path:y5 Nat} {all:y5 Oper} {i nid:Nat} {o:Oper} (n:cls E o.op=0) (t:y5 AV) :
 ∃φ:x9 AV,∀(t2:y5 AV) (h2:y5 Blk),(∀s∈Ο all o,lk t2 s=lk t s)->∀K,np E call fid path true all i nid o {t:=t2,h:=h2} K=φ.bind fun v=>K {t:=ò t2 o.dst v,h:=h2}:=by
 obtain⟨φ,l⟩:=Z2 (call:=call) (fid:=fid) (path:=path++[i]) (nid:=nid) (t:=t) n
 cases m:Ř all o t with
 |none =>
  refine⟨none,fun t2 h2 k K=>?_⟩;have c:=(gw (t:=t) (t2:=t2) k).trans m;unfold Ř at c;unfold np
  cases e:o.guard with
  |none=>rw[e] at c; cases c
  |some g =>
   obtain⟨j,d⟩:=g;rw[e] at c;simp only at c ⊢
   cases hb:lk t2 (mH all j)<;>rw[hb] at c<;>first|rfl|cases c
 |some b =>
  cases b with
  |false =>
   refine⟨some .und,fun t2 h2 k K=>?_⟩;have c:=(gw (t:=t) (t2:=t2) k).trans m;unfold Ř at c;unfold np
   cases e:o.guard with
   |none=>rw[e] at c; cases c
   |some g =>
    obtain⟨j,d⟩:=g;rw[e] at c;simp only at c ⊢
    cases hb:lk t2 (mH all j)<;>rw[hb] at c<;>first|rfl|(cases c; done)|skip
    simp only[Option.some.injEq] at c ⊢;rw[c];rfl
  |true =>
   refine⟨φ,fun t2 h2 k K=>?_⟩;have c:=(gw (t:=t) (t2:=t2) k).trans m;have q:=l t2 h2 (CB k);unfold Ř at c;unfold np
   cases e:o.guard with
   |none=>exact q _
   |some g =>
    obtain⟨j,d⟩:=g;rw[e] at c;simp only at c ⊢
    cases hb:lk t2 (mH all j)<;>rw[hb] at c<;>first|(cases c; done)|skip
    simp only[Option.some.injEq] at c ⊢;rw[c];exact q _
def V6 {E:Env ρ} {call:y5 Nat->Bool->Nat->y5 AV->y5 Blk->(AV->y5 Blk->x9 ρ)->x9 ρ} {fid:Nat} {path:y5 Nat} {nid:Nat} {o:Oper} (d:cls E o.op=3) (j:∀x∈o.op.operands.toList,ev t2 x=ev t x) (K:AV->St->x9 ρ) :
 iG E call fid path true {t:=t2,h:=h} nid o K=iG E call fid path true {t:=t,h:=h} nid o fun v S=>K v {t:=t2,h:=S.h}:=by
 have k:jY E {t:=t2,h:=h} o.op=jY E {t:=t,h:=h} o.op:=GU j fun _ _ _ _ _=>rfl;simp only[gP]
 try simp only[CC]
 rw[k]
 cases q:o.op with
 |call c =>
  obtain⟨f,args,tys⟩:=c;rw[q] at j d
  cases f with
  |value f =>
   have u:ev t2 f=ev t f:=j f (by simp[Op.operands,Call.operands]);have e:∀x∈args.toList,ev t2 x=ev t x:=fun x s=>j x (by simp[Op.operands,Call.operands]; exact .inr (by simpa using s));have z:=E6 e;simp only[u,z]
   cases i:ev t f with
   |fn g fa fb =>
    cases g with
    |func g =>
     simp only
     cases m:E.clone g&&QB f with
     |false=>rfl
     |true =>
      exfalso;rw[bZ] at m
      cases f with
      |func g' =>
       have:g'=g:=by simp only[ev] at i; cases i; rfl
       subst this;simp[cls,m.1] at d
      |_=>simp[QB] at m
    |_=>rfl
   |yld =>
    simp only;rcases n:args.toList with _|⟨x,_|⟨y,l⟩⟩
    ·rfl
    ·simp only; rw[e x (by rw[n]; simp)]
    ·rfl
   |_=>rfl
  |builtin b=>cases b<;>simp[cls] at d
  |_=>rfl
 |_=>rw[q] at d; simp[cls] at d
def TT {E:Env ρ} {call:y5 Nat->Bool->Nat->y5 AV->y5 Blk->(AV->y5 Blk->x9 ρ)->x9 ρ} {fid:Nat} {path:y5 Nat} {all:y5 Oper} {i nid:Nat} {o:Oper} (m:cls E o.op=3) (e:∀s∈Ο all o,lk t2 s=lk t s) :
 ∃Ψ:(AV->y5 Blk->x9 ρ)->x9 ρ,(∀K,np E call fid path true all i nid o {t:=t,h:=h} K=Ψ fun v h'=>K {t:=ò t o.dst v,h:=h'})/\∀K,np E call fid path true all i nid o {t:=t2,h:=h} K=Ψ fun v h'=>K {t:=ò t2 o.dst v,h:=h'}:=by
 have d:∀t':y5 AV,(∀s∈Ο all o,lk t' s=lk t s)->∀K,np E call fid path true all i nid o {t:=t',h:=h} K=(fun k:AV->y5 Blk->x9 ρ=>match Ř all o t with
  |none=>none
  |some false=>k .und h
  |some true=>iG E call fid (path++[i]) true {t:=t,h:=h} nid o fun v S=>k v S.h) fun v h'=>K {t:=ò t' o.dst v,h:=h'}:=fun t' e K=>by
  have l:=gw (t:=t) (t2:=t') (o:=o) e;have n:=V6 (call:=call) (fid:=fid) (path:=path++[i]) (nid:=nid) (h:=h) m (CB e);rw[<-l];unfold Ř np
  cases u:o.guard with
  |none=>exact n _
  |some g =>
   obtain⟨j,c⟩:=g;simp only
   cases hb:lk t' (mH all j) with
   |bool b =>
    simp only
    cases q:b==c with
    |true=>exact n _
    |false=>rfl
   |_=>rfl
 exact⟨fun k:AV->y5 Blk->x9 ρ=>match Ř all o t with
  |none=>none
  |some false=>k .und h
  |some true=>iG E call fid (path++[i]) true {t:=t,h:=h} nid o fun v S=>k v S.h,d t fun _ _=>rfl,d t2 e⟩
def OC {E:Env ρ} {all:y5 Oper} {o:Oper} (b:cls E o.op=0) (S:St):s8 E all o S=[]:=by
 unfold s8
 split
 ·exact AH b
 ·rfl
def swap0 {E:Env ρ} {call:y5 Nat->Bool->Nat->y5 AV->y5 Blk->(AV->y5 Blk->x9 ρ)->x9 ρ} {fid:Nat} {path:y5 Nat} {all:y5 Oper} {d:y5 Nat} {acc:y5 (Nat×y5 Nat)} {ia na ib nb:Nat} {a b:Oper} {K:y5 Nat->y5 Nat->St->x9 ρ} {r:ρ}
 (q:abL E all d ia ib a b) (ha:cls E a.op=0) (hb:cls E b.op=3)
 (e:sS E call fid path all d acc ia na a {t:=t,h:=h} (fun y S=>sS E call fid path all d ((ia,y)::acc) ib nb b S (K y))=some r) :
 sS E call fid path all d acc ib nb b {t:=t,h:=h} (fun I S=>sS E call fid path all d ((ib,I)::acc) ia na a S fun y=>K y I)=some r:=by
 obtain⟨φ,n⟩:=VS (call:=call) (fid:=fid) (path:=path) (all:=all) (i:=ia) (nid:=na) ha t;unfold sS at e
 split at e<;>try (cases e; done)
 rename_i k;rw[n t h fun _ _=>rfl] at e;obtain⟨u,J,m⟩:=ġ e;simp only at m
 split at m<;>try (cases m; done)
 rename_i c;have j:∀s∈Ο all b,lk (ò t a.dst u) s=lk t s:=fun s C=>tv (q.rb s C) _;obtain⟨Ψ,N,L⟩:=TT (call:=call) (fid:=fid) (path:=path) (all:=all) (i:=ib) (nid:=nb) (h:=h) hb j;rw[L] at m;have A:Ř all b (ò t a.dst u)=Ř all b t:=gw j;have F:vU E {t:=ò t a.dst u,h:=h} b.op=vU E {t:=t,h:=h} b.op:=AI (CB j) fun _ _ _ _ _=>rfl;have G:s8 E all b {t:=ò t a.dst u,h:=h}=s8 E all b {t:=t,h:=h}:=Gw j fun _ _ _ _ _ _=>rfl;unfold sS
 split
 ·rename_i z;exfalso;rw[F,A,mO] at c
  cases R:Ř all b t==some true<;>rw[R] at z c<;>simp only[fU,dk,dE,eA,cA] at z c
  rw[z,fg] at c;cases c
 ·rw[N];rw[<-m];congr 1;funext v h';have o:∀s∈Ο all a,lk (ò t b.dst v) s=lk t s:=fun s C=>tv (q.ra s C) _;have B:Ř all a (ò t b.dst v)=Ř all a t:=gw o
  have l:¬((Ř all a (ò t b.dst v)==some true&&!chk E all d ((ib,s8 E all b {t:=t,h:=h})::acc) ia (vU E {t:=ò t b.dst v,h:=h'} a.op))=true):=by
   rw[B,AH ha,mO,BA q.hb q.ha,dk];rw[AH ha] at k;exact dQ.1 k
  dsimp only
  split
  ·rename_i O; exact absurd O l
  ·rw[n _ _ o,J,dI,OC ha,OC ha,G,Ey q.dd]
def swap {E:Env ρ} {call:y5 Nat->Bool->Nat->y5 AV->y5 Blk->(AV->y5 Blk->x9 ρ)->x9 ρ} {fid:Nat} {path:y5 Nat} {all:y5 Oper} {n:y5 Nat} {acc:y5 (Nat×y5 Nat)} {ia na ib nb:Nat} {a b:Oper} {K:y5 Nat->y5 Nat->St->x9 ρ} {r:ρ}
 (hpe:Zp E call) (k:abL E all n ia ib a b) (hbd:ā E.clone b.op=true->lkB h nb=.dead) (hn:ā E.clone a.op=true->ā E.clone b.op=true->na≠nb)
 (hfar1:ā E.clone a.op=true->∀x∈b.op.operands.toList,na∉refs1 (ev t x))
 (hfar:1<=cls E b.op->ā E.clone a.op=true->(∀p∈acc,∀c,all[p.1]?=some c->xd E c.op b.op=true->(n.getD ib 0).testBit p.1=false->(n.getD p.1 0).testBit ib=false->∀x∈b.op.operands.toList,∀id∈refs1 (ev t x),id∉p.2)->∀x∈b.op.operands.toList,na∉refs2 h (ev t x))
 (e:sS E call fid path all n acc ia na a {t:=t,h:=h} (fun Fa S=>sS E call fid path all n ((ia,Fa)::acc) ib nb b S (K Fa))=some r) :
 sS E call fid path all n acc ib nb b {t:=t,h:=h} (fun Fb S=>sS E call fid path all n ((ib,Fb)::acc) ia na a S fun Fa=>K Fa Fb)=some r:=by
 by_cases hb3:cls E b.op<=2
 case neg =>
  have:=Yy E b.op;exact swap0 k (k.b3.resolve_left hb3) (by omega) e
 -- what a does
 obtain⟨φa,a0,a1,a2,_⟩:=DP (t:=t) (t2:=t) (h:=h) (h2:=h) (call:=call) (fid:=fid) (path:=path) (i:=ia) (nid:=na) (all:=all) r hpe k.a3 rfl (fun _ _=>rfl) (fun _ _ _ _ _ _=>rfl);unfold sS at e
 split at e<;>try (cases e; done)
 rename_i J;rw[a2] at e;obtain⟨⟨va,V⟩,q1,q2⟩:=ġ e;simp only at q2
 split at q2<;>try (cases q2; done)
 rename_i d;have Z:=a1 _ q1;have hea:=a0 _ q1;simp only at hea
 -- b looks at the same
 have C:∀s∈Ο all b,lk (ò t a.dst va) s=lk t s:=fun s hs=>tv (k.rb s hs) _;have htb':∀s∈Ο all b,lk t s=lk (ò t a.dst va) s:=fun s hs=>(C s hs).symm;have N:=CB C;have hwb:Ř all b (ò t a.dst va)=Ř all b t:=gw C
 have B:1<=cls E b.op->Ř all b t=some true->chk E all n ((ia,s8 E all a {t:=t,h:=h})::acc) ib (vU E {t:=ò t a.dst va,h:=aps V h} b.op)=true:=fun _ j=>by
  rw[hwb,j] at d;simpa using d
 have hone:Ř all b t=some true->1<=cls E b.op->∀x∈b.op.operands.toList,∀id∈refs1 (ev t x),lkB (aps V h) id=lkB h id:=fun j h1 x v id hi=>by
  refine Kd fun p U m=>?_;rcases hea p U with⟨h2,o⟩|⟨h2,o⟩
  ·exact hfar1 o x v (by rw[<-h2,m]; exact hi)
  ·have F:=B h1 j;rw[mO,bZ] at F;refine yz F.1 k.ha k.hb k.bba k.bab (nc.2 (.inl ⟨h2,h1⟩)) p.1 o ?_;rw[m];refine(mI h1).2 ⟨x,v,?_⟩;rw[N x v];simp only[refs2,b8];exact .inl hi
 have hrefs:Ř all b t=some true->1<=cls E b.op->∀x∈b.op.operands.toList,refs2 (aps V h) (ev t x)=refs2 h (ev t x):=fun j h1 x v=>by
  have:∀(l:y5 Nat),(∀id∈l,lkB (aps V h) id=lkB h id)->(l.flatMap fun id=>(G6 (lkB (aps V h) id)).flatMap Ć)=l.flatMap fun id=>(G6 (lkB h id)).flatMap Ć:=by
   intro l
   induction l with
   |nil=>intro _; rfl
   |cons y l ih=>intro hl; simp only[cH]; rw[hl y (by simp),ih fun id hi=>hl id (by simp[hi])]
  simp only[refs2];rw[this _ (hone j h1 x v)]
 have G:Ř all b t=some true->1<=cls E b.op->ā E.clone a.op=true->∀x∈b.op.operands.toList,na∉refs2 h (ev t x):=fun j h1 h2=>hfar h1 h2 fun p U c hc1 hc2 hb1 hb2 x v id hi m=>by
  have F:=B h1 j;rw[mO,bZ] at F;have hk2:=cr.1 F.2 p U;refine yz hk2 hc1 k.hb hb2 hb1 hc2 id m ((mI h1).2 ⟨x,v,?_⟩);rw[N x v];simp only[refs2,b8];exact .inl hi
 have A:Ř all b t=some true->1<=cls E b.op->∀x∈b.op.operands.toList,lW h (aps V h) (ev t x):=fun j h1 x v id hi=>by
  refine Kd fun p U m=>?_;rcases hea p U with⟨h2,o⟩|⟨h2,o⟩
  ·exact G j h1 o x v (by rw[<-h2,m]; exact hi)
  ·have F:=B h1 j;rw[mO,bZ] at F;refine yz F.1 k.ha k.hb k.bba k.bab (nc.2 (.inl ⟨h2,h1⟩)) p.1 o ?_;rw[m];refine(mI h1).2 ⟨x,v,?_⟩;rw[N x v,hrefs j h1 x v];exact hi
 -- what b does
 obtain⟨φb,b0,b1,b2,b3⟩:=DP (t:=t) (t2:=ò t a.dst va) (h:=h) (h2:=aps V h) (call:=call) (fid:=fid) (path:=path) (i:=ib) (nid:=nb) (all:=all) r hpe hb3 (qy _ _) C A;have hfb:s8 E all b {t:=ò t a.dst va,h:=aps V h}=s8 E all b {t:=t,h:=h}:=Gw C A;rw[b3] at q2;obtain⟨⟨vb,eb⟩,q3,q4⟩:=ġ q2;simp only at q4;rw[hfb] at q4;have heb:=b0 _ q3;simp only at heb;have hfo:Ř all b t=some true->vU E {t:=ò t a.dst va,h:=aps V h} b.op=vU E {t:=t,h:=h} b.op:=fun j=>AI N (A j)
 -- a looks at the same
 have R:∀s∈Ο all a,lk (ò t b.dst vb) s=lk t s:=fun s hs=>tv (k.ra s hs) _
 have I:xd E a.op b.op=true->∀id∈s8 E all a {t:=t,h:=h},id∉s8 E all b {t:=t,h:=h}:=fun hcl id hi hj=>by
  unfold s8 at hj;simp only at hj
  split at hj
  ·rename_i j
   have h1:1<=cls E b.op:=by rcases nc.1 hcl with h|h<;>omega
   have F:=B h1 j;rw[mO,bZ,hfo j] at F;exact yz F.1 k.ha k.hb k.bba k.bab hcl id hi hj
  ·cases hj
 have u:Ř all a t=some true->1<=cls E a.op->∀x∈a.op.operands.toList,lW h (aps eb h) (ev t x):=fun j h1 x v id hi=>by
  have W:id∈s8 E all a {t:=t,h:=h}:=by
   unfold s8;simp only[j];exact(mI h1).2 ⟨x,v,hi⟩
  refine Kd fun p U m=>?_;rcases heb p U with⟨h2,o⟩|⟨h2,o⟩
  ·exact Z id W (by rw[<-m,h2]; exact hbd o)
  ·exact I (nc.2 (.inr ⟨h1,h2⟩)) id W (m▸o)
 obtain⟨φa',a0',a1',a2',a3'⟩:=DP (t:=t) (t2:=ò t b.dst vb) (h:=h) (h2:=aps eb h) (call:=call) (fid:=fid) (path:=path) (i:=ia) (nid:=na) (all:=all) r hpe k.a3 (qy _ _) R u;have hfa:s8 E all a {t:=ò t b.dst vb,h:=aps eb h}=s8 E all a {t:=t,h:=h}:=Gw R u
 have o:np E call fid path true all ia na a {t:=t,h:=h} (fun S=>K (s8 E all a {t:=t,h:=h}) (s8 E all b {t:=t,h:=h}) {t:=ò S.t b.dst vb,h:=aps eb S.h})=some r:=by rw[a2,q1]; exact q4
 rw[a2'] at o;obtain⟨⟨va',ea'⟩,q5,q6⟩:=ġ o;simp only at q6;have Y:=a0' _ q5;simp only at Y
 have hcomm:aps eb (aps ea' h)=aps ea' (aps eb h):=TE fun p U q hq T=>by
  rcases Y p U with⟨h2,o⟩|⟨h2,o⟩<;>rcases heb q hq with⟨h4,L⟩|⟨h4,L⟩
  ·exact hn o L (by rw[<-h2,<-h4]; exact T)
  ·-- b would write a's new block
   have j:Ř all b t=some true:=by
    unfold s8 at L;simp only at L
    split at L
    ·assumption
    ·cases L
   have h5':q.1∈vU E {t:=t,h:=h} b.op:=by
    unfold s8 at L;simp only[j] at L;exact L
   obtain⟨x,v,hi⟩:=(mI (by omega)).1 h5';exact G j (by omega) o x v (by rw[<-h2,T]; exact hi)
  ·exact Z p.1 o (by rw[T,h4]; exact hbd L)
  ·exact I (nc.2 (.inl ⟨h2,by omega⟩)) p.1 o (by rw[T]; exact L)
 rw[Ey k.dd,hcomm] at q6
 -- the checks
 have chb:(Ř all b t==some true&&!chk E all n acc ib (vU E {t:=t,h:=h} b.op))=false:=by
  cases j:Ř all b t==some true with
  |false=>rfl
  |true =>
   have O:Ř all b t=some true:=by simpa using j
   rw[hwb,j] at d;simp only[dk,eA] at d ⊢;rw[mO,bZ,hfo O] at d;exact d.2
 have cha:(Ř all a (ò t b.dst vb)==some true&&!chk E all n ((ib,s8 E all b {t:=t,h:=h})::acc) ia (vU E {t:=ò t b.dst vb,h:=aps eb h} a.op))=false:=by
  rw[gw R]
  cases j:Ř all a t==some true with
  |false=>rfl
  |true =>
   have O:Ř all a t=some true:=by simpa using j
   rw[j] at J;simp only[dk,eA] at J ⊢;rw[AI (CB R) (u O),mO,bZ];refine⟨P4 ?_,J⟩
   have hfa0:s8 E all a {t:=t,h:=h}=vU E {t:=t,h:=h} a.op:=by simp only[s8,O]
   cases z:Ř all b t with
   |some wb=>cases wb with
    |true =>
     rw[hwb,z] at d;simp only[beq_self_eq_true,dk,eA] at d;rw[mO,bZ,hfo z,hfa0] at d;simp only[s8,z];exact d.1
    |false=>simp only[s8,z]; exact BA k.ha k.hb
   |none=>simp only[s8,z]; exact BA k.ha k.hb
 unfold sS;simp only[chb];rw[b2,q3];simp only[Option.bind_some,cha];rw[a3',q5];simp only[Option.bind_some];rw[hfa];exact q6
abbrev Item:=Nat×Nat×Oper
def mc (clone:Nat->Bool):y5 Oper->Nat->Nat->y5 Item
 |[],_,_=>[]
 |o::os,i,nid=>(i,nid,o)::mc clone os (i+1) (bif ā clone o.op then nid+1 else nid)
def RC (E:Env ρ) (call:y5 Nat->Bool->Nat->y5 AV->y5 Blk->(AV->y5 Blk->x9 ρ)->x9 ρ) (fid:Nat) (path:y5 Nat) (all:y5 Oper) (b:y5 Nat):y5 Item->y5 (Nat×y5 Nat)->St->(St->x9 ρ)->x9 ρ
 |[],_,S,K=>K S
 |x::l,acc,S,K=>sS E call fid path all b acc x.1 x.2.1 x.2.2 S fun F S=>RC E call fid path all b l ((x.1,F)::acc) S K
def Nq {E:Env ρ} {call:y5 Nat->Bool->Nat->y5 AV->y5 Blk->(AV->y5 Blk->x9 ρ)->x9 ρ} {fid:Nat} {path:y5 Nat} {all:y5 Oper} {b:y5 Nat}:∀(os:y5 Oper) (i nid:Nat) (acc:y5 (Nat×y5 Nat)) (S:St) (K:St->x9 ρ),
 WB E call fid path all b os i nid acc S K=RC E call fid path all b (mc E.clone os i nid) acc S K
 |[],_,_,_,_,_=>rfl
 |o::os,i,nid,acc,S,K=>by
  rw[Wz];simp only[mc,RC];congr 1;funext F S';exact Nq os _ _ _ S' K
def abd {E:Env ρ} {all:y5 Oper} {c:y5 Nat} {acc b:y5 (Nat×y5 Nat)} {i:Nat} {F:y5 Nat} (h:∀p,p∈acc↔p∈b):chk E all c acc i F=chk E all c b i F:=by
 rw[eI];simp only[chk,cr]
 exact forall_congr' fun p=>by rw[h p]
def MP {E:Env ρ} {call:y5 Nat->Bool->Nat->y5 AV->y5 Blk->(AV->y5 Blk->x9 ρ)->x9 ρ} {fid:Nat} {path:y5 Nat} {all:y5 Oper} {c:y5 Nat} {K:St->x9 ρ}:∀(l:y5 Item) {acc b:y5 (Nat×y5 Nat)} (S:St),(∀p,p∈acc↔p∈b) ->
 RC E call fid path all c l acc S K=RC E call fid path all c l b S K
 |[],_,_,_,_=>rfl
 |x::l,acc,b,S,h=>by
  simp only[RC,sS];rw[abd h]
  split
  ·rfl
  ·congr 1;funext S'
   exact MP l S' fun p=>by simp[h p]
def acj {E:Env ρ} {call:y5 Nat->Bool->Nat->y5 AV->y5 Blk->(AV->y5 Blk->x9 ρ)->x9 ρ} {fid:Nat} {path:y5 Nat} {all:y5 Oper} {j:y5 Nat} {b:Item} {rest:y5 Item} {K:St->x9 ρ} {r:ρ} {h0:y5 Blk} {t0:y5 AV}
 (v:Zp E call) :
 ∀(as:y5 Item) (acc:y5 (Nat×y5 Nat)) (t:y5 AV) (h:y5 Blk),(∀a∈as,abL E all j a.1 b.1 a.2.2 b.2.2)->(∀s∈Ο all b.2.2,lk t s=lk t0 s)->(ā E.clone b.2.2.op=true->lkB h b.2.1=.dead) ->
  (∀a∈as,ā E.clone a.2.2.op=true->ā E.clone b.2.2.op=true->a.2.1≠b.2.1)->(∀a∈as,ā E.clone a.2.2.op=true->∀x∈b.2.2.op.operands.toList,a.2.1∉refs2 h0 (ev t0 x)) ->
  (1<=cls E b.2.2.op->∀x∈b.2.2.op.operands.toList,∀id∈refs1 (ev t0 x),lkB h id=lkB h0 id\/∃p∈acc,(∃c,all[p.1]?=some c/\xd E c.op b.2.2.op=true/\(j.getD b.1 0).testBit p.1=false/\(j.getD p.1 0).testBit b.1=false)/\id∈p.2) ->
  RC E call fid path all j (as++b::rest) acc {t:=t,h:=h} K=some r->RC E call fid path all j (b::(as++rest)) acc {t:=t,h:=h} K=some r
 |[],acc,t,h,_,_,_,_,_,_,e=>e
 |a::as,acc,t,h,L,ht,A,Y,hfar,hinv,e=>by
  have C:=L a (by simp);have n:∀x∈b.2.2.op.operands.toList,ev t x=ev t0 x:=CB ht
  have G:ā E.clone a.2.2.op=true->∀x∈b.2.2.op.operands.toList,a.2.1∉refs1 (ev t x):=fun k x m hi=>hfar a (by simp) k x m (by
   rw[n x m] at hi;simp only[refs2,b8]
   exact .inl hi)
  simp only[dw,RC] at e ⊢
  have fin:=swap (K:=fun R O S=>RC E call fid path all j (as++rest) ((b.1,O)::(a.1,R)::acc) S K) (r:=r) (t:=t) (h:=h) (acc:=acc) (ia:=a.1) (na:=a.2.1) (ib:=b.1) (nb:=b.2.1) (a:=a.2.2) (b:=b.2.2) (fid:=fid) (path:=path) v C A (Y a (by simp)) G
   (fun h1 k V x m=>by
    rw[n x m];have q:∀id∈refs1 (ev t0 x),lkB h id=lkB h0 id:=fun id hi=>(hinv h1 x m id hi).resolve_right fun⟨p,o,⟨c,c1,c2,c3,c4⟩,d⟩=>V p o c c1 c2 c3 c4 x m id (by rw[n x m]; exact hi) d
    have:refs2 h (ev t0 x)=refs2 h0 (ev t0 x):=by
     have U:∀(l:y5 Nat),(∀id∈l,lkB h id=lkB h0 id)->(l.flatMap fun id=>(G6 (lkB h id)).flatMap Ć)=l.flatMap fun id=>(G6 (lkB h0 id)).flatMap Ć:=by
      intro l
      induction l with
      |nil=>intro _; rfl
      |cons y l ih=>intro hl; simp only[cH]; rw[hl y (by simp),ih fun id hi=>hl id (by simp[hi])]
     simp only[refs2];rw[U _ q]
    rw[this]
    exact hfar a (by simp) k x m) ?_
  ·have u:∀(R O:y5 Nat) (S:St),RC E call fid path all j (as++rest) ((b.1,O)::(a.1,R)::acc) S K=RC E call fid path all j (as++rest) ((a.1,R)::(b.1,O)::acc) S K:=fun R O S=>MP _ S fun p=>by
    simp only[b9]
    constructor<;>rintro(h|h|h)<;>simp[h]
   simp only[u] at fin;exact fin
  ·-- behind a
   obtain⟨φa,a0,a1,a2,_⟩:=DP (t:=t) (t2:=t) (h:=h) (h2:=h) (call:=call) (fid:=fid) (path:=path) (i:=a.1) (nid:=a.2.1) (all:=all) r v C.a3 rfl (fun _ _=>rfl) (fun _ _ _ _ _ _=>rfl);unfold sS at e ⊢
   split at e<;>try (cases e; done)
   rename_i I;simp only[I];rw[a2] at e ⊢;obtain⟨⟨va,ea⟩,T,Z⟩:=ġ e;rw[T];simp only[dI];have N:=a1 _ T;have z:=a0 _ T;simp only at z Z;refine acj v as _ _ _ (fun c J=>L c (by simp[J])) (fun s hs=>(tv (C.rb s hs) _).trans (ht s hs)) (fun k=>?_) (fun c J=>Y c (by simp[J])) (fun c J=>hfar c (by simp[J])) (fun h1 x m id hi=>?_) Z
   ·refine(Kd fun p o d=>?_).trans (A k);rcases z p o with⟨h2,B⟩|⟨h2,B⟩
    ·exact Y a (by simp) B k (h2.symm.trans d)
    ·exact N p.1 B (by rw[d]; exact A k)
   ·by_cases F:∃p∈ea,p.1=id
    ·obtain⟨p,o,d⟩:=F;rcases z p o with⟨h2,B⟩|⟨h2,B⟩
     ·exfalso;exact G B x m (by rw[n x m,<-h2,d]; exact hi)
     ·exact .inr ⟨(a.1,_),List.mem_cons_self ..,⟨a.2.2,C.ha,nc.2 (.inl ⟨h2,h1⟩),C.bab,C.bba⟩,d▸B⟩
    ·have W:lkB (aps ea h) id=lkB h id:=Kd fun p o d=>F ⟨p,o,d⟩;rw[W];rcases hinv h1 x m id hi with h2|⟨p,o,h2⟩
     ·exact .inl h2
     ·exact .inr ⟨p,by simp[o],h2⟩
section
variable {ν:Nat->Value} {w:World}
def VR0.refs {a:AV} {v:Value} (c:VR0 ν h w a v):∀id∈Ć a,lkB h id≠.dead:=by
 intro id hi hd
 cases a<;>simp only[Ć,ce,dM] at hi
 ·subst hi; obtain⟨_,t,g',fz,xs,b,_⟩:=c; rw[hd] at b; cases b
 ·subst hi; obtain⟨_,t,g',fz,xs,b,_⟩:=c; rw[hd] at b; cases b
 ·subst hi; obtain⟨_,t,g',fz,b,_⟩:=c; rw[hd] at b; cases b
 ·subst hi; obtain⟨_,_,b,_⟩:=c; rw[hd] at b; cases b
 ·subst hi; obtain⟨_,t,g',fz,xs,b,_⟩:=c; rw[hd] at b; cases b
 ·subst hi; obtain⟨_,k,g',xss,b,_⟩:=c; rw[hd] at b; cases b
 ·subst hi; obtain⟨_,k,g',xss,b,_⟩:=c; rw[hd] at b; cases b
 ·subst hi; obtain⟨_,k,g',xss,b,_⟩:=c; rw[hd] at b; cases b
 ·subst hi; obtain⟨_,k,g',xss,b,_⟩:=c; rw[hd] at b; cases b
 ·subst hi; obtain⟨_,es,b,_⟩:=c; rw[hd] at b; cases b
 ·subst hi; obtain⟨_,s,q,b,_⟩:=c; rw[hd] at b; cases b
def VR1.refs {a:AV} {v:Value} (b:VR1 ν h w a v):∀id∈Ć a,lkB h id≠.dead:=by
 cases c:a.isFn with
 |true=>cases a<;>first|(cases c; done)|(intro id hi; cases hi)
 |false=>rw[qL c] at b; exact b.refs
def í.left_mem {α β:Type} {R:α->β->Prop}:∀{l:y5 α} {m:y5 β},í R l m->∀a∈l,∃b∈m,R a b
 |[],_,_,a,ha=>by cases ha
 |x::l,y::m,h,a,ha=>by
  rcases b9.1 ha with rfl|ha
  ·exact⟨y,by simp,h.1⟩
  ·obtain⟨b,hb,c⟩:=í.left_mem h.2 a ha;exact⟨b,by simp[hb],c⟩
 |_::_,[],h,_,_=>h.elim
def VR.refs1 {a:AV} {v:Value} (j:VR ν h w a v):∀id∈Go.Am.refs1 a,lkB h id≠.dead:=by
 cases d:a.isAgg with
 |true =>
  cases a<;>try cases d
  obtain⟨us,_,h2⟩:=j;intro id hi;simp only[Go.Am.refs1,cY] at hi;obtain⟨c,i,hi⟩:=hi;obtain⟨u,_,b⟩:=h2.left_mem c i;exact b.1.refs id hi
 |false =>
  cases e:a.isTup with
  |true=>cases a<;>first|(cases e; done)|(intro id hi; cases hi)
  |false =>
   have h1:=j.one d e;have h2:=h1.refs
   cases a with
   |fn f fa fb =>
    obtain⟨fs,cs,_,l,k⟩:=h1
    have one:∀c u,VR0 ν h w c u->∀id∈We c,lkB h id≠.dead:=fun c u b id hi=>by
     cases c with
     |agg=>exact b.elim
     |_=>exact b.refs id hi
    intro id hi;simp only[Go.Am.refs1,b8,cY] at hi;rcases hi with⟨c,i,hi⟩|⟨c,i,hi⟩
    ·obtain⟨u,_,b⟩:=l.left_mem c i;exact one c u b id hi
    ·obtain⟨u,_,b⟩:=k.left_mem c i;exact one c u b id hi
   |agg=>cases d
   |_=>exact h2
def VR.refs2 (H:HR ν h w) {a:AV} {v:Value} (l:VR ν h w a v):∀id∈Go.Am.refs2 h a,lkB h id≠.dead:=by
 intro id hi;simp only[Go.Am.refs2,b8,cY] at hi;rcases hi with hi|⟨j,q,c,d,hi⟩
 ·exact l.refs1 id hi
 ·have k:=H.blk j
  cases i:lkB h j with
  |cells cs =>
   rw[i] at k d;obtain⟨b,o,e,_,_,n⟩:=k;obtain⟨u,_,m⟩:=n.left_mem c d;exact m.1.refs id hi
  |_=>rw[i] at d; cases d
end
end
end Go.Am
end

noncomputable section
namespace Go.Am
variable [Globs] [É]
section
variable {ρ:Type} {ν:Nat->Value} {h:y5 Blk} {w:World}
def Y6 (acc:y5 Nat) (o:Oper):Nat:=o.after.toList.foldl (fun s e=>if Region.binds .any e then s ||| 2 ^ e.on ||| acc.getD e.on 0 else s) 0
def Cl:∀(os:y5 Oper) (acc:y5 Nat),∃l,Ŝ os acc=acc++l/\∀(k:Nat) (o:Oper),os[k]?=some o->(acc++l).getD (acc.length+k) 0=Y6 ((acc++l).take (acc.length+k)) o
 |[],acc=>⟨[],by simp[Ŝ],by simp⟩
 |o::os,acc=>by
  obtain⟨l,h1,h2⟩:=Cl os (acc++[Y6 acc o]);refine⟨Y6 acc o::l,?_,?_⟩
  ·simp only[Ŝ];show Ŝ os (acc++[Y6 acc o])=_;rw[h1]; simp
  ·intro k o' b
   cases k with
   |zero =>
    simp only[dW,Option.some.injEq] at b;subst b;simp[List.getD]
   |succ k =>
    have:=h2 k o' (by simpa using b);simp only[cq,List.singleton_append,b7,cX] at this;rw[show acc.length+(k+1)=acc.length+1+k by omega];exact this
def Y5 {os:y5 Oper} {k:Nat} {o:Oper} (b:os[k]?=some o):(Ŝ os []).getD k 0=Y6 ((Ŝ os []).take k) o:=by
 obtain⟨l,h1,h2⟩:=Cl os [];rw[h1];simpa using h2 k o b
def LC {acc:y5 Nat} {i:Nat}:∀(es:y5 Edge) (s:Nat),(es.foldl (fun s e=>if Region.binds .any e then s ||| 2 ^ e.on ||| acc.getD e.on 0 else s) s).testBit i=true ->
 s.testBit i=true\/∃e∈es,Region.binds .any e=true/\(i=e.on\/(acc.getD e.on 0).testBit i=true)
 |[],s,h=>.inl h
 |e::es,s,h=>by
  simp only[ej] at h;rcases LC es _ h with h1|⟨c,b,h1⟩
  ·split at h1
   ·rename_i hb;simp only[Nat.testBit_or,Bool.or_eq_true,Nat.testBit_two_pow,decide_eq_true_eq] at h1;rcases h1 with(h1|h1)|h1
    ·exact .inl h1
    ·exact .inr ⟨e,by simp,hb,.inl h1.symm⟩
    ·exact .inr ⟨e,by simp,hb,.inr h1⟩
   ·exact .inl h1
  ·exact .inr ⟨c,by simp[b],h1⟩
def uG {E:Env ρ} {all:y5 Oper} {e:y5 Nat}:∀{j:y5 Oper} {c:Nat},vF E all e j c=true->∀(k:Nat) (b:Oper),j[k]?=some b->∀(i:Nat) (a:Oper),i<c+k->all[i]?=some a->aba E all a b=false\/(e.getD (c+k) 0).testBit i=true
 |[],_,_,k,b,d,_,_,_,_=>by simp at d
 |x::j,c,h,k,b,d,i,a,hi,ha=>by
  simp only[vF,bZ,cr,List.mem_range] at h
  cases k with
  |zero =>
   simp only[dW,Option.some.injEq] at d;subst d;have:=h.1 i (by omega);rw[ha] at this;simp only[Bool.or_eq_true,dE] at this;simpa using this
  |succ k =>
   have:=uG h.2 k b (by simpa using d) i a (by omega) ha
   rwa [show c+1+k=c+(k+1) by omega] at this
def se:∀{os:y5 Oper} {j:Nat},Ph os j=true->∀(k:Nat) (o:Oper),os[k]?=some o->∀e∈o.after,Region.binds .any e=true->e.on<j+k
 |[],_,_,k,o,b,_,_,_=>by simp at b
 |x::os,j,h,k,o,b,e,c,hb=>by
  simp only[Ph,bZ,cr] at h
  cases k with
  |zero =>
   simp only[dW,Option.some.injEq] at b;subst b;have:=h.1 e (by simpa using c);simp only[hb,dj,Bool.false_or,decide_eq_true_eq] at this;omega
  |succ k =>
   have:=se h.2 k o (by simpa using b) e c hb;omega
def bef_lt {os:y5 Oper} (hb:Ph os 0=true):∀(j i:Nat),((Ŝ os []).getD j 0).testBit i=true->i<j:=by
 intro j
 induction j using Nat.strongRecOn with
 |ind j e =>
  intro i hi
  cases d:os[j]? with
  |none =>
   obtain⟨l,h1,_⟩:=Cl os []
   have c:∀(os:y5 Oper) (acc:y5 Nat),(Ŝ os acc).length=acc.length+os.length:=by
    intro os
    induction os with
    |nil=>intro acc; simp[Ŝ]
    |cons o os e=>intro acc; simp only[Ŝ]; rw[e]; simp; omega
   have:(Ŝ os [])[j]?=none:=by
    rw[List.getElem?_eq_none_iff] at d ⊢;rw[c]; simpa using d
   simp[List.getD,this] at hi
  |some o =>
   rw[Y5 d] at hi;rcases LC _ _ hi with m|⟨ed,h1,h2,k⟩
   ·simp at m
   ·have b:=se hb j o d ed (by simpa using h1) h2;rw[cF] at b;rcases k with rfl|k
    ·exact b
    ·have:((Ŝ os []).getD ed.on 0).testBit i=true:=by
      rw[<-k];congr 1;simp only[List.getD,dF];rw[if_pos (by omega)]
     exact Nat.lt_trans (e ed.on b i this) b
def nO {clone:Nat->Bool}:∀{os:y5 Oper} {i nid:Nat} {x:Item},x∈mc clone os i nid->∃k,os[k]?=some x.2.2/\x.1=i+k/\nid<=x.2.1/\(ā clone x.2.2.op=true->x.2.1<nid+Τ clone os)
 |[],_,_,_,c=>by cases c
 |o::os,i,nid,x,c=>by
  simp only[mc,b9] at c;rcases c with rfl|c
  ·exact⟨0,by simp,rfl,bX _,fun h=>by rw[lq]; simp only at h; rw[h]; simp⟩
  ·obtain⟨k,h1,h2,d,e⟩:=nO c;refine⟨k+1,by simpa using h1,by omega,?_,fun h=>?_⟩
   ·cases b:ā clone o.op<;>rw[b] at d<;>simp at d<;>omega
   ·have:=e h;rw[lq]
    cases b:ā clone o.op<;>rw[b] at this<;>simp at this ⊢<;>omega
def AA {clone:Nat->Bool}:∀{os:y5 Oper} {i nid k:Nat} {o:Oper},os[k]?=some o->∃n,(i+k,n,o)∈mc clone os i nid
 |[],_,_,k,_,h=>by simp at h
 |x::os,i,nid,0,o,h=>by
  simp only[dW,Option.some.injEq] at h;subst h;exact⟨nid,by simp[mc]⟩
 |x::os,i,nid,k+1,o,h=>by
  obtain⟨n,b⟩:=AA (clone:=clone) (i:=i+1) (nid:=bif ā clone x.op then nid+1 else nid) (os:=os) (k:=k) (o:=o) (by simpa using h);exact⟨n,by simp only[mc,b9]; right; rwa [show i+(k+1)=i+1+k by omega]⟩
def BX {clone:Nat->Bool}:∀{os:y5 Oper} {i nid:Nat},(mc clone os i nid).Pairwise fun x y=>x.1<y.1/\(ā clone x.2.2.op=true->x.2.1<y.2.1)
 |[],_,_=>List.Pairwise.nil
 |o::os,i,nid=>by
  refine List.Pairwise.cons (fun y d=>?_) BX;obtain⟨k,_,h2,c,_⟩:=nO d;refine⟨by simp only; omega,fun b=>?_⟩;simp only at b;rw[b] at c;simp at c ⊢;omega
def UJ {l:y5 Item} {p e:Item->Bool} {b:Item} (m:l.Pairwise fun x y=>x.1<y.1) (hb:b∈l) (k:p b=true) (d:∀x∈l,e x=(p x&&x.1 != b.1)) :
 ∃as rest,l.filter p=as++b::rest/\l.filter e=as++rest/\∀a∈as,a∈l/\p a=true/\a.1<b.1:=by
 obtain⟨j,i,rfl⟩:=List.append_of_mem hb;rw[List.pairwise_append] at m;obtain⟨_,h2,o⟩:=m;have h1:∀x∈j,x.1<b.1:=fun x c=>o x c b (by simp);have n:∀x∈i,b.1<x.1:=fun x c=>(cO.1 h2).1 x c;refine⟨j.filter p,i.filter p,by simp[k],?_,fun a ha=>?_⟩
 ·have u:j.filter e=j.filter p:=List.filter_congr fun x c=>by
   rw[d x (by simp[c])]
   have:(x.1 != b.1)=true:=by have:=h1 x c; simp; omega
   rw[this]; simp
  have s:i.filter e=i.filter p:=List.filter_congr fun x c=>by
   rw[d x (by simp[c])]
   have:(x.1 != b.1)=true:=by have:=n x c; simp; omega
   rw[this]; simp
  have q:e b=false:=by rw[d b (by simp)]; simp
  simp[u,s,q]
 ·rw[du] at ha;exact⟨by simp[ha.1],ha.2,h1 a ha.1⟩
def RM {α:Type} {R:α->α->Prop}:∀{l:y5 α},l.Pairwise R->∀x∈l,∀y∈l,x=y\/R x y\/R y x
 |[],_,_,c,_,_=>by cases c
 |z::l,h,x,c,y,b=>by
  rw[cO] at h;rcases b9.1 c with c|c
  ·rcases b9.1 b with b|b
   ·exact .inl (c.trans b.symm)
   ·rw[c]; exact .inr (.inl (h.1 y b))
  ·rcases b9.1 b with b|b
   ·rw[b]; exact .inr (.inr (h.1 x c))
   ·exact RM h.2 x c y b
def aaY {E:Env ρ} {call:y5 Nat->Bool->Nat->y5 AV->y5 Blk->(AV->y5 Blk->x9 ρ)->x9 ρ} {L:Nat} (hE:gN E L call) {fid:Nat} {path:y5 Nat} {d:Array Oper} (hp:path.length+1=L) (hg:oV d.toList d.toList=true)
 (hd:Yg E d.toList=true) {base:Nat} {K:St->x9 ρ} {r:ρ} {Q:Exit->Act->World->Prop} {m:Nat} (hmb:m<=base) :
 ∀(C:Nat) (c:Array Bool) (acc:y5 (Nat×y5 Nat)) (S:St) (a:Act) (ν:Nat->Value) (w:World),c.size=d.size ->
  (∀j i,c.getD j false=true->((Ŝ d.toList []).getD j 0).testBit i=true->c.getD i false=true) ->
  ((mc E.clone d.toList 0 base).filter fun x=>!c.getD x.1 true).length=C->Sim ν S a w ->
  (∀x∈(mc E.clone d.toList 0 base).filter fun x=>!c.getD x.1 true,ā E.clone x.2.2.op=true->x.2.1<S.h.length/\lkB S.h x.2.1=.dead)->m<=S.h.length ->
  RC E call fid path d.toList (Ŝ d.toList []) ((mc E.clone d.toList 0 base).filter fun x=>!c.getD x.1 true) acc S K=some r ->
  (∀ν' Y a' w',Sim ν' Y a' w'->Ev m ν S.h w ν' Y.h w'->m<=Y.h.length->Dd m S.h Y.h->K Y=some r->Q .normal a' w') ->
  wpAnyIn fen 0 E.P .any d Q C c a w:=by
 simp only[Yg,bZ] at hd;obtain⟨G,hdr⟩:=hd
 have B:∀{c:Array Bool} {j:Nat},c.size=d.size->j<d.size->c.getD j true=c.getD j false:=fun {c j} hs hj=>by
  have:j<c.size:=by omega
  simp[this]
 have hpw:=(BX (clone:=E.clone) (os:=d.toList) (i:=0) (nid:=base)).imp fun {x y} h=>h.1;intro C
 induction C with
 |zero =>
  intro c acc S a ν w R hcl A H z hm e hQ;have Z:=cB.1 A;refine⟨?_,?_⟩
  ·rw[List.eq_nil_iff_forall_not_mem];intro j hj;obtain⟨h0,o,ho,_⟩:=mem_ready.1 hj;obtain⟨n,hn⟩:=AA (clone:=E.clone) (i:=0) (nid:=base) (os:=d.toList) (k:=j) (o:=o) (by simpa using ho);have:(0+j,n,o)∈(mc E.clone d.toList 0 base).filter fun x=>!c.getD x.1 true:=du.2 ⟨hn,by simp only[cF]; rw[h0]; rfl⟩;rw[Z] at this;cases this
  ·rw[Z] at e;exact hQ ν S a w H (Ev.refl _ _ _ _) hm (Dd.refl _ _) e
 |succ C ih =>
  intro c acc S a ν w R hcl A H z hm e hQ;refine⟨fun hr=>?_,fun j hj=>?_⟩
  ·-- the first of those that are left is ready
   exfalso
   cases q:(mc E.clone d.toList 0 base).filter fun x=>!c.getD x.1 true with
   |nil=>rw[q] at A; simp at A
   |cons x l =>
    have s:x∈(mc E.clone d.toList 0 base).filter fun x=>!c.getD x.1 true:=by rw[q]; simp
    rw[du] at s;obtain⟨k,h1,h2,_⟩:=nO s.1
    have hk:x.1=k:=by omega
    have I:x.1∈Region.ready .any d c:=mem_ready.2 ⟨by simpa using s.2,x.2.2,by rw[hk]; simpa using h1,fun ed hed hb=>by
     have hlt:=se G k x.2.2 h1 ed hed hb
     have hks:k<d.size:=by
      have:=(ca.1 h1).1;simpa using this
     cases hl:c.getD ed.on false with
     |true=>rfl
     |false =>
      exfalso;obtain⟨o',ho'⟩:∃o',d.toList[ed.on]?=some o':=⟨_,bY (by simp; omega)⟩;obtain⟨n,hn⟩:=AA (clone:=E.clone) (i:=0) (nid:=base) ho'
      have V:(0+ed.on,n,o')∈x::l:=by
       rw[<-q];refine du.2 ⟨hn,?_⟩;simp only[cF];rw[B R (by omega),hl];rfl
      have hpl:(x::l).Pairwise fun x y=>x.1<y.1:=by rw[<-q]; exact hpw.filter _
      rcases b9.1 V with W|W
      ·rw[<-W] at hk; simp at hk; omega
      ·have:=(cO.1 hpl).1 _ W
       simp only at this; omega⟩
    rw[hr] at I;cases I
  ·obtain⟨h0,o,ho,hed⟩:=mem_ready.1 hj;have hjs:j<d.size:=(dA.1 ho).1
   have O:d.toList[j]?=some o:=by simpa using ho
   obtain⟨n,hn⟩:=AA (clone:=E.clone) (i:=0) (nid:=base) O;rw[cF] at hn
   have hpp:∀x∈mc E.clone d.toList 0 base,(fun x:Item=>!(c.setIfInBounds j true).getD x.1 true) x=((fun x:Item=>!c.getD x.1 true) x&&x.1 != j):=fun x s=>by
    by_cases N:x.1=j
    ·simp only[N]
     have:j<c.size:=by omega
     simp[this]
    ·have h1:(c.setIfInBounds j true).getD x.1 true=c.getD x.1 true:=getD_set_ne true (Ne.symm N)
     have h2:(x.1 != j)=true:=by simpa using N
     simp only[h1,h2,fM]
   obtain⟨as,rest,f1,f2,f3⟩:=UJ (b:=(j,n,o)) hpw hn (by simp only[h0]; rfl) hpp
   have hbit:∀i,((Ŝ d.toList []).getD j 0).testBit i=true->c.getD i false=true:=fun i hi=>by
    rw[Y5 O] at hi;rcases LC _ _ hi with hz|⟨ed,h1,h2,W⟩
    ·simp at hz
    ·have hl:=hed ed (by simpa using h1) h2;rcases W with rfl|W
     ·exact hl
     ·refine hcl ed.on i hl ?_;have hlt:=se G j o O ed (by simpa using h1) h2;rw[<-W];congr 1;simp only[List.getD,dF];rw[if_pos (by omega)]
   have T:=BX (clone:=E.clone) (os:=d.toList) (i:=0) (nid:=base)
   have F:((j,n,o):Item)∈(mc E.clone d.toList 0 base).filter fun x=>!c.getD x.1 true:=by rw[f1]; simp
   have hne:∀x∈(mc E.clone d.toList 0 base).filter (fun x=>!c.getD x.1 true),x≠(j,n,o)->ā E.clone x.2.2.op=true->ā E.clone o.op=true->x.2.1≠n:=fun x s N h1 h2=>by
    have hsub:((mc E.clone d.toList 0 base).filter fun x=>!c.getD x.1 true).Pairwise fun x y=>x.1<y.1/\(ā E.clone x.2.2.op=true->x.2.1<y.2.1):=T.filter _;rcases RM hsub x s _ F with he|hr|hr
    ·exact absurd he N
    ·exact eQ (hr.2 h1)
    ·exact(eQ (hr.2 h2)).symm
   rw[f1] at e
   have e':=acj (b:=(j,n,o)) (h0:=S.h) (t0:=S.t) (K:=K) (r:=r) hE.pureEq as acc S.t S.h (fun x s=>by
    obtain⟨g1,g2,g3⟩:=f3 x s;obtain⟨k,h1,h2,_⟩:=nO g1
    have hk:x.1=k:=by omega
    have hkj:k<j:=by simp only at g3; omega
    have hnb:((Ŝ d.toList []).getD j 0).testBit k=false:=by
     cases hb:((Ŝ d.toList []).getD j 0).testBit k with
     |false=>rfl
     |true =>
      exfalso;have hl:=hbit k hb;simp only[dE] at g2;rw[B R (by omega),hk,hl] at g2;cases g2
    have hnb2:((Ŝ d.toList []).getD k 0).testBit j=false:=by
     cases hb:((Ŝ d.toList []).getD k 0).testBit j with
     |false=>rfl
     |true=>have:=bef_lt G k j hb; omega
    have:=uG hdr j o O k x.2.2 (by omega) h1;rw[cF,hnb] at this;rw[<-hk] at h1 hnb hnb2
    exact QR (this.resolve_right (by simp)) h1 O hnb hnb2)
    (fun _ _=>rfl)
    (fun J=>(z _ F J).2)
    (fun x s h1 h2=>hne x (by rw[f1]; simp[s]) (fun he=>by
     have:=(f3 x s).2.2;rw[he] at this
     simp at this) h1 h2)
    (fun x s h1 y hy hmem=>VR.refs2 H.heap (ċ H y) _ hmem ((z x (by rw[f1]; simp[s]) h1).2)) (fun _ _ _ _ _=>.inl rfl) e
   simp only[RC,sS] at e'
   split at e'<;>try (cases e'; done)
   refine Ep hE.call hE.plain hE.clone hE.yld hg hp ho H (fun J=>z _ F J) e' fun ν' w' u v Y g1 g2 g3 g4 g5 g6 g7=>?_;have q:((mc E.clone d.toList 0 base).filter fun x=>!(c.setIfInBounds j true).getD x.1 true)=as++rest:=f2
   have V:∀x∈as++rest,x∈(mc E.clone d.toList 0 base).filter fun x=>!c.getD x.1 true:=fun x s=>by
    rw[f1]
    rcases b8.1 s with s|s<;>simp[s]
   have hnj:∀x∈as++rest,x≠(j,n,o):=fun x s he=>by
    rw[<-q,du] at s;rw[he] at s
    have hlt:j<c.size:=by omega
    simp[hlt] at s
   have hm':m<=Y.h.length:=cg hm g4;refine ih (c.setIfInBounds j true) ((j,s8 E d.toList o S)::acc) {t:=ò Y.t o.dst v,h:=Y.h} _ ν' w' (by simpa using R) (fun j' i h1 h2=>?_) ?_ ?_ (fun x s J=>?_) hm' ?_ fun ν'' S'' a'' w'' q1 q2 q3 q4 q5=>hQ ν'' S'' a'' w'' q1 ((g3.mono hm).trans q2 (bX _)) q3 (fun i hi hdi=>q4 i hi ?_) q5
   ·by_cases hjj:j=j'
    ·subst hjj;exact getD_set_true (hbit i h2)
    ·rw[getD_set_ne false hjj] at h1;exact getD_set_true (hcl j' i h1 h2)
   ·rw[q];rw[f1] at A;simp only[b7,cj] at A ⊢;omega
   ·rw[g6];exact H.put g3 g2 o.dst g1
   ·rw[q] at s;obtain⟨h1,h2⟩:=z x (V x s) J;refine⟨by simp only; omega,g5 _ h1 ?_ h2⟩
    by_cases U:ā E.clone o.op=true
    ·exact .inl (hne x (V x s) (hnj x s) J U)
    ·exact .inr (by simpa using U)
   ·rw[q];exact g7
   ·refine g5 i (by omega) ?_ hdi
    by_cases U:ā E.clone o.op=true
    ·left;obtain⟨k,_,_,W,_⟩:=nO hn;simp only at W;show i≠n;omega
    ·exact .inr (by simpa using U)
def θ {E:Env ρ} (hmix:E.P.follows .mixedOrders=true) (L:Nat) (call:y5 Nat->Bool->Nat->y5 AV->y5 Blk->(AV->y5 Blk->x9 ρ)->x9 ρ) (C:gN E L call):kd E L call:=by
 intro fid rid path b S a K r m ν w z e H A;unfold EE at e
 split at e<;>try (cases e; done)
 rename_i s;simp only[dk,fG,eA] at s;apply wpIn_region_any hmix;have c:=fun id=>Ga S.h (Τ E.clone b.toList) id;have U:Sim ν {t:=S.t,h:=S.h++List.replicate (Τ E.clone b.toList) .dead} a {w with drawn:=w.drawn+1}:=H.same c rfl rfl rfl rfl;have v:Ev m ν S.h w ν (S.h++List.replicate (Τ E.clone b.toList) .dead) {w with drawn:=w.drawn+1}:=Ev.same (w:=w) (w':={w with drawn:=w.drawn+1}) c rfl rfl rfl rfl m
 have d:((mc E.clone b.toList 0 S.h.length).filter fun x=>!(Array.replicate b.size false).getD x.1 true)=mc E.clone b.toList 0 S.h.length:=by
  rw[List.filter_eq_self];intro x n;obtain⟨k,h1,h2,_⟩:=nO n
  have q:k<b.size:=by
   have:=(ca.1 h1).1;simpa using this
  have:x.1=k:=by omega
  simp[this,q]
 have l:∀(os:y5 Oper) (i nid:Nat),(mc E.clone os i nid).length=os.length:=by
  intro os
  induction os with
  |nil=>intros; rfl
  |cons o os y=>intro i nid; simp[mc,y]
 refine aaY (fid:=fid) (base:=S.h.length) (K:=K .normal) (r:=r) C z s.2 s.1 A b.size _ [] {t:=S.t,h:=S.h++List.replicate (Τ E.clone b.toList) .dead} a ν _ (by simp) (fun j i h1 _=>?_) ?_ U (fun x n u=>?_) ?_ ?_ fun ν' T V w' R O N J I=>⟨ν',T,R,v.trans O (bX _),N,fun j B hd=>J j B (by simp only[c]; exact hd),I⟩
 ·exfalso;rcases cW j b.size with h|h
  ·simp[h] at h1
  ·simp[h] at h1
 ·rw[d,l]; simp
 ·rw[d] at n;obtain⟨k,_,_,G,F⟩:=nO n;have:=F u;refine⟨by simp; omega,?_⟩;simp only[c];exact sL _ _ G
 ·simp; omega
 ·rw[d,<-Nq];exact e
end
end Go.Am
end

noncomputable section
namespace Go.Am
variable [Globs]
structure IFun where
 clo:Nat
 ct:Ty
 et:Ty
 F:Val ct->x9 (y5 (Val et))
def iY (it:IFun) (m:Val it.ct):y5 Blk:=[.acc it.et [],.cells (flat it.ct m)]
def SN:y5 AV:=[.yld,.box 1 0]
structure Pn (P:Program) (it:IFun):Prop where
 agg:it.et.isAgg=false
 ok:∀(g:É) (_:it.et=g.T) (m:Val it.ct) (xs:y5 (Val it.et)),it.F m=some xs->@YldP _ g P ⟨it.et,xs,false⟩->∀(ν:Nat->Value) (w:World) (vals:y5 Value),g.B<=w.heap.size->@HR _ g ν (iY it m) w->í (@VR _ g ν (iY it m) w) SN vals ->
  (∃fn c,P.funcs[it.clo]?=some fn/\fn.body=some c)/\CallsIn Fence.wide 0 P it.clo vals.toArray w fun e w'=>∃ν' h' u,e=.returned u/\@HR _ g ν' h' w'/\Ev 2 ν (iY it m) w ν' h' w'/\lkB h' 0=.acc it.et xs/\∃cs,lkB h' 1=.cells cs/\Ô it.ct cs=some m
def Pn.mono {P:Program} {clo:Nat} {ct et:Ty} {F b:Val ct->x9 (y5 (Val et))} (h:Pn P ⟨clo,ct,et,F⟩) (c:∀m xs,b m=some xs->F m=some xs):Pn P ⟨clo,ct,et,b⟩ :=
 ⟨h.agg,fun g d m xs e=>h.ok g d m xs (c m xs e)⟩
def nr0 (id:Nat):AV->Bool
 |.box j _=>!Nat.beq j id
 |_=>true
def nr1 (id:Nat):AV->Bool
 |.fn _ a b=>a.all (nr0 id)&&b.all (nr0 id)
 |v=>nr0 id v
def nr2 (id:Nat):AV->Bool
 |.agg cs=>cs.all (nr1 id)
 |v=>nr1 id v
def nr3 (id:Nat):AV->Bool
 |.tup cs=>cs.all (nr2 id)
 |v=>nr2 id v
def nrB (id:Nat):Blk->Bool
 |.cells cs=>cs.all (nr1 id)
 |.fns es=>es.all fun e=>nr1 id e.2
 |_=>true
def clr (id:Nat) (v:AV):AV:=match nr3 id v with
 |true=>v
 |false=>.any
def í.memR {α β:Type} {R d:α->β->Prop}:∀{l:y5 α} {m:y5 β},(∀a∈l,∀b,R a b->d a b)->í R l m->í d l m
 |[],[],_,_=>trivial
 |a::l,b::m,c,h=>⟨c a (by simp) b h.1,í.memR (fun a ha=>c a (by simp[ha])) h.2⟩
 |[],_::_,_,h=>h.elim
 |_::_,[],_,h=>h.elim
def lkB_all {f:Blk->Bool} (h0:f .dead=true):∀(l:y5 Blk),l.all f=true->∀i,f (lkB l i)=true
 |[],_,i=>by cases i<;>exact h0
 |x::l,h,0=>by simp only[d8,bZ] at h; exact h.1
 |x::l,h,i+1=>by simp only[d8,bZ] at h; exact lkB_all h0 l h.2 i
def lk_all {f:AV->Bool} (h0:f .any=true):∀(l:y5 AV),l.all f=true->∀i,f (lk l i)=true
 |[],_,i=>by cases i<;>exact h0
 |x::l,h,0=>by simp only[d8,bZ] at h; exact h.1
 |x::l,h,i+1=>by simp only[d8,bZ] at h; exact lk_all h0 l h.2 i
def Xs {f:AV->AV} (h0:f .any=.any):∀(l:y5 AV) (i:Nat),lk (l.map f) i=f (lk l i)
 |[],i=>by cases i<;>exact h0.symm
 |x::l,0=>rfl
 |x::l,i+1=>Xs h0 l i
section
variable {g:É} {D:y5 Deferred} {Q:x9 Nat} {M:Nat} {ν:Nat->Value} {h:y5 Blk} {w:World} {id b0:Nat} {cs:y5 AV}
abbrev sM (g:É) (b0:Nat):Nat->Prop:=fun k=>g.G k\/k=b0
def Yd (i:lkB h id=.cells cs) (d:ν id=.pointer (some ⟨b0,0,none⟩)) (k:Nat) (b:@Av _ (g.re (sM g b0) D Q M) ν (ã h id .dead) k):@Av _ g ν h k:=by
 rcases b with⟨j,c,e⟩|b
 ·refine .inl ⟨j,?_,e⟩;rw[oR] at c
  split at c
  ·cases c
  ·exact c
 ·rcases b with b|rfl
  ·exact .inr b
  ·exact .inl ⟨id,by rw[i]; rfl,by rw[d]; rfl⟩
def LJ (z:lkB h id=.cells cs) (u:ν id=.pointer (some ⟨b0,0,none⟩)) {a:AV} {v:Value} (A:nr0 id a=true) (l:@VR0 _ g ν h w a v):@VR0 _ (g.re (sM g b0) D Q M) ν (ã h id .dead) w a v:=by
 have sub:=Yd (D:=D) (Q:=Q) (M:=M) (g:=g) z u
 have m:∀{j:Nat} {B:Blk},lkB h j=B->(∀cs,B≠.cells cs)->lkB (ã h id .dead) j=B:=fun {j B} y C=>by
  rw[Ì _ (fun e=>by rw[e,z] at y; exact C _ y.symm)]; exact y
 cases a with
 |slc t xs=>exact CR.mono sub l
 |mp k t es=>exact CR.mono sub l
 |eptr t x off =>
  obtain⟨b,o,us,h1,h2,d,F,E⟩:=l;exact⟨b,o,us,h1,fun q=>h2 (sub b q),d,CR.mono sub F,E⟩
 |own j q=>obtain⟨h1,t,g',fz,xs,h2,d⟩:=l; exact⟨h1,t,g',fz,xs,m h2 (by simp),d⟩
 |sub j q lo n=>obtain⟨h1,t,g',fz,xs,h2,d⟩:=l; exact⟨h1,t,g',fz,xs,m h2 (by simp),d⟩
 |omp j=>obtain⟨h1,k,t,es,h2,d⟩:=l; exact⟨h1,k,t,es,m h2 (by simp),d⟩
 |optr j q i off=>obtain⟨h1,t,g',fz,xs,h2,d⟩:=l; exact⟨h1,t,g',fz,xs,m h2 (by simp),d⟩
 |dp j q=>obtain⟨h1,k,g',xss,h2,d⟩:=l; exact⟨h1,k,g',xss,m h2 (by simp),d⟩
 |dq j q i=>obtain⟨h1,k,g',xss,h2,d⟩:=l; exact⟨h1,k,g',xss,m h2 (by simp),d⟩
 |dr j q i=>obtain⟨h1,k,g',xss,h2,d⟩:=l; exact⟨h1,k,g',xss,m h2 (by simp),d⟩
 |de j q i o=>obtain⟨h1,k,g',xss,h2,d⟩:=l; exact⟨h1,k,g',xss,m h2 (by simp),d⟩
 |ofn j=>obtain⟨h1,es,h2,d⟩:=l; exact⟨h1,es,m h2 (by simp),d⟩
 |oit j=>obtain⟨h1,s,q,h2,d⟩:=l; exact⟨h1,s,q,m h2 (by simp),d⟩
 |box j off =>
  obtain⟨c,b,h1,h2,d⟩:=l;refine⟨c,b,?_,h2,d⟩;rw[Ì _ (fun e=>by simp[nr0,e] at A)]; exact h1
 |_=>exact l
def Ef (j:lkB h id=.cells cs) (b:ν id=.pointer (some ⟨b0,0,none⟩)) {a:AV} {v:Value} (d:nr1 id a=true) (i:@VR1 _ g ν h w a v):@VR1 _ (g.re (sM g b0) D Q M) ν (ã h id .dead) w a v:=by
 cases e:a.isFn with
 |true =>
  cases a<;>try cases e
  obtain⟨fs,c,h1,h2,k⟩:=i;simp only[nr1,bZ,cr] at d;exact⟨fs,c,h1,h2.memR fun a ha _=>LJ j b (d.1 a ha),k.memR fun a ha _=>LJ j b (d.2 a ha)⟩
 |false =>
  rw[@qL _ (g.re _ _ _ _) _ _ _ _ _ e];rw[@qL _ g _ _ _ _ _ e] at i;refine LJ j b ?_ i
  cases a<;>first|exact d|cases e
def Tg (i:lkB h id=.cells cs) (b:ν id=.pointer (some ⟨b0,0,none⟩)) {a:AV} {v:Value} (e:nr2 id a=true) (d:@VR2 _ g ν h w a v):@VR2 _ (g.re (sM g b0) D Q M) ν (ã h id .dead) w a v:=by
 cases c:a.isAgg with
 |true =>
  cases a<;>try cases c
  obtain⟨vs,h1,h2⟩:=d;simp only[nr2,cr] at e;exact⟨vs,h1,h2.memR fun a ha _ j=>⟨Ef i b (e a ha) j.1,j.2⟩⟩
 |false =>
  rw[@sR _ (g.re _ _ _ _) _ _ _ _ _ c];rw[@sR _ g _ _ _ _ _ c] at d;refine Ef i b ?_ d
  cases a<;>first|exact e|cases c
def Ye (i:lkB h id=.cells cs) (b:ν id=.pointer (some ⟨b0,0,none⟩)) {a:AV} {v:Value} (e:nr3 id a=true) (d:@VR _ g ν h w a v):@VR _ (g.re (sM g b0) D Q M) ν (ã h id .dead) w a v:=by
 cases c:a.isTup with
 |true =>
  cases a<;>try cases c
  obtain⟨vs,h1,h2⟩:=d;simp only[nr3,cr] at e;exact⟨vs,h1,h2.memR fun a ha _=>Tg i b (e a ha)⟩
 |false =>
  rw[@qK _ (g.re _ _ _ _) _ _ _ _ _ c];rw[@qK _ g _ _ _ _ _ c] at d;refine Tg i b ?_ d
  cases a<;>first|exact e|cases c
def Yf (G:lkB h id=.cells cs) (B:ν id=.pointer (some ⟨b0,0,none⟩)) (O:(ã h id .dead).all (nrB id)=true) (H:@HR _ g ν h w):@HR _ (g.re (sM g b0) D Q M) ν (ã h id .dead) w:=by
 have sub:=Yd (D:=D) (Q:=Q) (M:=M) (g:=g) G B;have K:id<h.length:=ĭ G (by simp)
 have N:∀{j},(lkB (ã h id .dead) j).live=true->j≠id/\(lkB h j).live=true:=fun {j} A=>by
  rw[oR] at A
  split at A
  ·cases A
  ·rename_i R;exact⟨fun e=>R ⟨e,K⟩,A⟩
 have S:∃c e,w.heap[b0]?=some (.cells c e (0,0)):=by
  have:=@HR.blk _ g _ _ _ H id;rw[G] at this;obtain⟨b,c,e,F,I,_⟩:=this;rw[B] at F; cases F;exact⟨c,e,I⟩
 refine @HR.mk _ (g.re (sM g b0) D Q M) _ _ _ (fun j=>?_) (fun i j b hi A=>@HR.inj _ g _ _ _ H i j b (N hi).2 (N A).2) (fun k E=>?_) (fun j k A hb E=>?_) (@HR.glob _ g _ _ _ H) (fun b hb ⟨j,A,W⟩=>@HR.globL _ g _ _ _ H b hb ⟨j,(N A).2,W⟩)
 ·by_cases A:j=id
  ·rw[A,Ø _ K]; trivial
  ·have l:=lkB_all rfl _ O j;rw[Ì _ A] at l ⊢;have u:=@HR.blk _ g _ _ _ H j
   cases n:lkB h j with
   |dead=>trivial
   |cells c =>
    rw[n] at u l;obtain⟨b,c,e,h1,h2,C⟩:=u;simp only[nrB,cr] at l;exact⟨b,c,e,h1,h2,C.memR fun a ha _ T=>⟨Ef G B (l a ha) T.1,T.2⟩⟩
   |row t g' fz xs =>
    rw[n] at u
    cases fz with
    |true=>exact CR.mono sub u
    |false =>
     obtain⟨base,cap,h1,h2,C⟩:=u;refine⟨base,cap,h1,h2,C.imp (fun z=>z) fun⟨b,off,c,e,L,h5,h6,Z⟩=>⟨b,off,c,e,L,h5,h6,fun i x J=>?_⟩⟩;obtain⟨us,F,I⟩:=Z i x J;exact⟨us,CR.mono sub F,I⟩
   |map k v es =>
    rw[n] at u;obtain⟨b,d,y,h1,h2,C,L⟩:=u;refine⟨b,d,y,h1,h2,C,fun i x J=>?_⟩;obtain⟨m,us,F,I,V,U⟩:=L i x J;exact⟨m,us,F,CR.mono sub I,CR.mono sub V,U⟩
   |deep k g' xss=>rw[n] at u; exact u
   |fns es =>
    rw[n] at u l;obtain⟨b,d,y,h1,h2,C⟩:=u;simp only[nrB,cr] at l;exact⟨b,d,y,h1,h2,C.memR fun e Y _ q=>⟨q.1,q.2.1,Ef G B (l e Y) q.2.2⟩⟩
   |iter s q=>rw[n] at u; exact u
   |acc t xs =>
    rw[n] at u;obtain⟨us,h1,h2,C,L⟩:=u;exact⟨us,h1,h2,C,g.st _ _ _ _ _ _ L ⟨rfl,rfl,rfl,bX _,fun b _ R J=>R (sub b J),fun b o hb _ _=>hb,fun b o hb _ _=>hb,fun _ _ _=>rfl⟩⟩
 ·rcases E with E|rfl
  ·exact @HR.ghlt _ g _ _ _ H k E
  ·obtain⟨c,e,q⟩:=S;exact Ù q
 ·obtain⟨h1,h2⟩:=N A;rcases E with E|rfl
  ·exact @HR.ghne _ g _ _ _ H j k h2 hb E
  ·exact h1 (@HR.inj _ g _ _ _ H j id k h2 (by rw[G]; rfl) hb (by rw[B]; rfl))
end
section
variable {g:É} {G1:Nat->Prop} {D D1:y5 Deferred} {Q Q1:x9 Nat} {M M1:Nat} {ν:Nat->Value} {h:y5 Blk} {w:World} {id b0:Nat} {cs:y5 AV}
def Y7 {P:Blk->Prop} (hd:lkB h id=.dead) {j:Nat} {B:Blk} (b:lkB h j=B) (c:B≠.dead) (C:Blk) (V:Value):lkB (ã h id C) j=B/\ì ν id V j=ν j:=by
 letI:É:=Gh fun _=>False
 have:j≠id:=fun e=>by rw[e,hd] at b; exact c b.symm
 exact⟨by rw[Ì _ this]; exact b,ø _ _ this⟩
def Y8 (m:id<h.length) (n:∀b,g.G b->G1 b) (i:G1 b0) (k:Nat) (d:@Av _ (g.re g.G D Q M) (ì ν id (.pointer (some ⟨b0,0,none⟩))) (ã h id (.cells cs)) k):@Av _ (g.re G1 D1 Q1 M1) ν h k:=by
 rcases d with⟨j,l,c⟩|d
 ·by_cases e:j=id
  ·rw[e,È] at c; cases c; exact .inr i
  ·rw[Ì _ e] at l; rw[ø _ _ e] at c; exact .inl ⟨j,l,c⟩
 ·exact .inr (n k d)
def L7 (hd:lkB h id=.dead) (y:id<h.length) (C:∀b,g.G b->G1 b) (z:G1 b0) {a:AV} {v:Value} (e:@VR0 _ (g.re G1 D1 Q1 M1) ν h w a v):@VR0 _ (g.re g.G D Q M) (ì ν id (.pointer (some ⟨b0,0,none⟩))) (ã h id (.cells cs)) w a v:=by
 have sub:=Y8 (D:=D) (Q:=Q) (M:=M) (D1:=D1) (Q1:=Q1) (M1:=M1) (ν:=ν) (cs:=cs) y C z;have m:∀{j:Nat} {B:Blk},lkB h j=B->B≠.dead->lkB (ã h id (.cells cs)) j=B:=fun {j B} u A=>(Y7 (P:=fun _=>True) (ν:=ν) hd u A _ .nilFunc).1;have l:∀{j:Nat} {B:Blk},lkB h j=B->B≠.dead->ì ν id (.pointer (some ⟨b0,0,none⟩)) j=ν j:=fun {j B} u A=>(Y7 (P:=fun _=>True) (ν:=ν) hd u A (.cells cs) _).2
 cases a with
 |slc t xs=>exact CR.mono sub e
 |mp k t es=>exact CR.mono sub e
 |eptr t x off =>
  obtain⟨b,o,us,h1,h2,d,F,E⟩:=e;exact⟨b,o,us,h1,fun q=>h2 (sub b q),d,CR.mono sub F,E⟩
 |own j q=>obtain⟨h1,t,g',fz,xs,h2,d⟩:=e; exact⟨h1,t,g',fz,xs,m h2 (by simp),by rw[l h2 (by simp)]; exact d⟩
 |sub j q lo n=>obtain⟨h1,t,g',fz,xs,h2,d⟩:=e; exact⟨h1,t,g',fz,xs,m h2 (by simp),by rw[l h2 (by simp)]; exact d⟩
 |omp j=>obtain⟨h1,k,t,es,h2,d⟩:=e; exact⟨h1,k,t,es,m h2 (by simp),by rw[l h2 (by simp)]; exact d⟩
 |optr j q i off=>obtain⟨h1,t,g',fz,xs,h2,d⟩:=e; exact⟨h1,t,g',fz,xs,m h2 (by simp),by rw[l h2 (by simp)]; exact d⟩
 |dp j q=>obtain⟨h1,k,g',xss,h2,d⟩:=e; exact⟨h1,k,g',xss,m h2 (by simp),by rw[l h2 (by simp)]; exact d⟩
 |dq j q i=>obtain⟨h1,k,g',xss,h2,d⟩:=e; exact⟨h1,k,g',xss,m h2 (by simp),by rw[l h2 (by simp)]; exact d⟩
 |dr j q i=>obtain⟨h1,k,g',xss,h2,d⟩:=e; exact⟨h1,k,g',xss,m h2 (by simp),by rw[l h2 (by simp)]; exact d⟩
 |de j q i o=>obtain⟨h1,k,g',xss,h2,d⟩:=e; exact⟨h1,k,g',xss,m h2 (by simp),by rw[l h2 (by simp)]; exact d⟩
 |ofn j=>obtain⟨h1,es,h2,d⟩:=e; exact⟨h1,es,m h2 (by simp),d.trans (l h2 (by simp)).symm⟩
 |oit j=>obtain⟨h1,s,q,h2,d⟩:=e; exact⟨h1,s,q,m h2 (by simp),d.trans (l h2 (by simp)).symm⟩
 |box j off=>obtain⟨c,b,h1,h2,d⟩:=e; exact⟨c,b,m h1 (by simp),by rw[l h1 (by simp)]; exact h2,d⟩
 |_=>exact e
def Ei (hd:lkB h id=.dead) (d:id<h.length) (k:∀b,g.G b->G1 b) (e:G1 b0) {a:AV} {v:Value} (i:@VR1 _ (g.re G1 D1 Q1 M1) ν h w a v):@VR1 _ (g.re g.G D Q M) (ì ν id (.pointer (some ⟨b0,0,none⟩))) (ã h id (.cells cs)) w a v:=by
 cases j:a.isFn with
 |true =>
  cases a<;>try cases j
  obtain⟨fs,c,h1,h2,l⟩:=i;exact⟨fs,c,h1,h2.mono fun _ _=>L7 hd d k e,l.mono fun _ _=>L7 hd d k e⟩
 |false =>
  rw[@qL _ (g.re _ _ _ _) _ _ _ _ _ j];rw[@qL _ (g.re G1 _ _ _) _ _ _ _ _ j] at i;exact L7 hd d k e i
def Tz (hd:lkB h id=.dead) (c:id<h.length) (k:∀b,g.G b->G1 b) (d:G1 b0) {a:AV} {v:Value} (e:@VR2 _ (g.re G1 D1 Q1 M1) ν h w a v):@VR2 _ (g.re g.G D Q M) (ì ν id (.pointer (some ⟨b0,0,none⟩))) (ã h id (.cells cs)) w a v:=by
 cases i:a.isAgg with
 |true =>
  cases a<;>try cases i
  obtain⟨vs,h1,h2⟩:=e;exact⟨vs,h1,h2.mono fun _ _ j=>⟨Ei hd c k d j.1,j.2⟩⟩
 |false =>
  rw[@sR _ (g.re _ _ _ _) _ _ _ _ _ i];rw[@sR _ (g.re G1 _ _ _) _ _ _ _ _ i] at e;exact Ei hd c k d e
def Y9 (hd:lkB h id=.dead) (c:id<h.length) (j:∀b,g.G b->G1 b) (d:G1 b0) {a:AV} {v:Value} (e:@VR _ (g.re G1 D1 Q1 M1) ν h w a v):@VR _ (g.re g.G D Q M) (ì ν id (.pointer (some ⟨b0,0,none⟩))) (ã h id (.cells cs)) w a v:=by
 cases i:a.isTup with
 |true =>
  cases a<;>try cases i
  obtain⟨vs,h1,h2⟩:=e;exact⟨vs,h1,h2.mono fun _ _=>Tz hd c j d⟩
 |false =>
  rw[@qK _ (g.re _ _ _ _) _ _ _ _ _ i];rw[@qK _ (g.re G1 _ _ _) _ _ _ _ _ i] at e;exact Tz hd c j d e
def Za (hd:lkB h id=.dead) (I:id<h.length) (S:∀b,g.G b->G1 b) (J:G1 b0) (Z:¬g.G b0) (Y:¬b0<Globs.n) {c:Array Value} {e:TypeId} (hw:w.heap[b0]?=some (.cells c e (0,0)))
 (hc:í (@VRc _ (g.re g.G D Q M) (ì ν id (.pointer (some ⟨b0,0,none⟩))) (ã h id (.cells cs)) w) cs c.toList) (H:@HR _ (g.re G1 D1 Q1 M1) ν h w):@HR _ (g.re g.G D Q M) (ì ν id (.pointer (some ⟨b0,0,none⟩))) (ã h id (.cells cs)) w:=by
 have sub:=Y8 (D:=D) (Q:=Q) (M:=M) (D1:=D1) (Q1:=Q1) (M1:=M1) (ν:=ν) (cs:=cs) I S J
 have W:∀{j b},(lkB (ã h id (.cells cs)) j).live=true->Ĝ (ì ν id (.pointer (some ⟨b0,0,none⟩)) j) b->(j=id/\b=b0)\/(j≠id/\(lkB h j).live=true/\Ĝ (ν j) b):=fun {j b} C L=>by
  by_cases q:j=id
  ·rw[q,È] at L; cases L; exact .inl ⟨q,rfl⟩
  ·rw[Ì _ q] at C; rw[ø _ _ q] at L; exact .inr ⟨q,C,L⟩
 refine @HR.mk _ (g.re g.G D Q M) _ _ _ (fun j=>?_) (fun i j b hi C hbi hbj=>?_) (fun k R=>@HR.ghlt _ (g.re G1 D1 Q1 M1) _ _ _ H k (S k R)) (fun j k C hb R=>?_) (@HR.glob _ (g.re G1 D1 Q1 M1) _ _ _ H) (fun b hb ⟨j,C,L⟩=>by
  rcases W C L with⟨_,q⟩|⟨_,u,E⟩
  ·rw[q] at hb; exact Y hb
  ·exact @HR.globL _ (g.re G1 D1 Q1 M1) _ _ _ H b hb ⟨j,u,E⟩)
 ·by_cases C:j=id
  ·rw[C,Ø _ I];exact⟨b0,c,e,È _ _ _,hw,hc⟩
  ·rw[Ì _ C];have A:=@HR.blk _ (g.re G1 D1 Q1 M1) _ _ _ H j;have l:=ø ν (.pointer (some ⟨b0,0,none⟩)) C
   cases y:lkB h j with
   |dead=>trivial
   |cells c2 =>
    rw[y] at A;obtain⟨b,c3,e3,h1,h2,K⟩:=A;exact⟨b,c3,e3,l.trans h1,h2,K.mono fun _ _ hq=>⟨Ei hd I S J hq.1,hq.2⟩⟩
   |row t g' fz xs =>
    rw[y] at A
    cases fz with
    |true =>
     show CR w _ _ _ [ì ν id _ j];rw[l]; exact CR.mono sub A
    |false =>
     obtain⟨base,cap,h1,h2,K⟩:=A;refine⟨base,cap,l.trans h1,h2,K.imp (fun z=>z) fun⟨b,off,c,e,T,h5,h6,h7⟩=>⟨b,off,c,e,T,h5,h6,fun i x N=>?_⟩⟩;obtain⟨us,F,u⟩:=h7 i x N;exact⟨us,CR.mono sub F,u⟩
   |map k v es =>
    rw[y] at A;obtain⟨b,d,B,h1,h2,K,T⟩:=A;refine⟨b,d,B,l.trans h1,h2,K,fun i x N=>?_⟩;obtain⟨m,us,F,u,E,V⟩:=T i x N;exact⟨m,us,F,CR.mono sub u,CR.mono sub E,V⟩
   |deep k g' xss =>
    rw[y] at A;obtain⟨base,cap,us,h1,h2⟩:=A;exact⟨base,cap,us,l.trans h1,h2⟩
   |fns es =>
    rw[y] at A;obtain⟨b,d,B,h1,h2,K⟩:=A;exact⟨b,d,B,l.trans h1,h2,K.mono fun _ _ q=>⟨q.1,q.2.1,Ei hd I S J q.2.2⟩⟩
   |iter s q =>
    rw[y] at A;obtain⟨b,h1,h2⟩:=A;exact⟨b,l.trans h1,h2⟩
   |acc t xs =>
    rw[y] at A;obtain⟨us,h1,h2,K,T⟩:=A;refine⟨us,l.trans h1,by rw[l]; exact h2,K,?_⟩;rw[l];exact g.st _ _ _ _ _ _ T ⟨rfl,rfl,rfl,bX _,fun b _ hn N=>hn (sub b N),fun b o hb _ _=>hb,fun b o hb _ _=>hb,fun _ _ _=>rfl⟩
 ·have O:∀{j b},(lkB h j).live=true->Ĝ (ν j) b->b≠b0:=fun {j b} F u E=>@HR.ghne _ (g.re G1 D1 Q1 M1) _ _ _ H j b F u (by rw[E]; exact J)
  rcases W hi hbi with⟨F,u⟩|⟨F,u,E⟩<;>rcases W C hbj with⟨V,U⟩|⟨V,U,q6⟩
  ·rw[F,V]
  ·exact absurd u (O U q6)
  ·exact absurd U (O u E)
  ·exact @HR.inj _ (g.re G1 D1 Q1 M1) _ _ _ H i j b u U E q6
 ·rcases W C hb with⟨F,u⟩|⟨F,u,E⟩
  ·rw[u] at R; exact Z R
  ·exact @HR.ghne _ (g.re G1 D1 Q1 M1) _ _ _ H j k u E (S k R)
end
def st0 (pin:Nat):AV->Bool
 |.any=>true
 |.und=>true
 |.bool _=>true
 |.int _ _=>true
 |.str _=>true
 |.nils=>true
 |.slc _ _=>true
 |.nilm=>true
 |.mp _ _ _=>true
 |.nilp=>true
 |.nilfn=>true
 |.yld=>true
 |.ifc _=>true
 |.box id _=>Nat.blt id pin
 |.ofn id=>Nat.blt id pin
 |_=>false
def st3 (pin:Nat):AV->Bool
 |.fn _ a b=>a.all (st0 pin)&&b.all (st0 pin)
 |a=>st0 pin a
section
variable [É] {ν ν':Nat->Value} {h h':y5 Blk} {w w':World} {pin:Nat}
def VR0.stab (e:Ev pin ν h w ν' h' w') {a:AV} {v:Value} (c:st0 pin a=true) (j:VR0 ν h w a v):VR0 ν' h' w' a v:=by
 cases a with
 |box id off =>
  obtain⟨cs,b,l,h1,h2⟩:=j;have d:id<pin:=dl c;have hb:=e.blk id d;rw[l] at hb;obtain⟨⟨o,i⟩,m⟩:=hb;exact⟨o,b,i,by rw[m]; exact h1,h2⟩
 |ofn id =>
  obtain⟨h1,es,l,h2⟩:=j;have d:id<pin:=dl c;have hb:=e.blk id d;rw[l] at hb;obtain⟨⟨n,i⟩,m⟩:=hb;exact⟨h1,n,i,by rw[m]; exact h2⟩
 |slc t xs=>exact CR.keep e.keepA j
 |mp k t es=>exact CR.keep e.keepA j
 |own=>cases c
 |sub=>cases c
 |omp=>cases c
 |optr=>cases c
 |eptr=>cases c
 |dp=>cases c
 |dq=>cases c
 |dr=>cases c
 |de=>cases c
 |fn=>cases c
 |agg=>cases c
 |tup=>cases c
 |oit=>cases c
 |_=>exact j
def VR.stab (e:Ev pin ν h w ν' h' w') {a:AV} {v:Value} (c:st3 pin a=true) (d:VR ν h w a v):VR ν' h' w' a v:=by
 cases a with
 |fn f fa fb =>
  obtain⟨fs,cs,h1,h2,i⟩:=d;simp only[st3,bZ,cr] at c;exact⟨fs,cs,h1,h2.memR fun a ha _=>VR0.stab e (c.1 a ha),i.memR fun a ha _=>VR0.stab e (c.2 a ha)⟩
 |agg=>cases c
 |tup=>cases c
 |oit=>cases c
 |any=>trivial
 |und=>exact d
 |bool=>exact d
 |int=>exact d
 |str=>exact d
 |nils=>exact d
 |nilm=>exact d
 |nilp=>exact d
 |nilfn=>exact d
 |yld=>exact d
 |box id off=>exact VR0.stab (a:=.box id off) e c d
 |ofn id=>exact VR0.stab (a:=.ofn id) e c d
 |ifc b=>exact d
 |slc t xs=>exact VR0.stab (a:=.slc t xs) e rfl d
 |mp k t es=>exact VR0.stab (a:=.mp k t es) e rfl d
 |own=>cases c
 |sub=>cases c
 |omp=>cases c
 |optr=>cases c
 |eptr=>cases c
 |dp=>cases c
 |dq=>cases c
 |dr=>cases c
 |de=>cases c
def adx {t:Ty} (c:t.isAgg=false) {x:Val t} {u:Value} (b:CR w (Av ν h) t x [u]):VR ν h w (enc t x) u:=by
 have d:flat t x=[enc t x]:=by cases t<;>first|rfl|cases c
 have:=jS (ν:=ν) (h:=h) b;rw[d] at this;exact VR1.up this.1.1
end
def ŵ (P:Program) (f:Nat):x9 Code :=
 match P.funcs[f]? with
 |some fn=>fn.body
 |none=>none
structure PA (ρ:Type) where
 path:y5 Nat
 fid:Nat
 bid:Nat
 pin:Nat
 cs:y5 Ty
 vs:y5 Ty
 head:Tpl
 it:IFun
 bF:Val (tyL cs)->Val (tyL vs)->Val it.et->(Val (tyL vs)->x9 ρ)->x9 ρ
section
variable {ρ:Type}
def RF (E:Env ρ) (call:y5 Nat->Bool->Nat->y5 AV->y5 Blk->(AV->y5 Blk->x9 ρ)->x9 ρ) (fid:Nat) (path:y5 Nat) (pin bid:Nat) (it:LI) (S:St) (y:AV) (kn:St->x9 ρ):x9 ρ :=
 match it with
 |.rf _ ps a b=>match ps.toList with
  |[p]=>goC E call fid path pin bid a {t:=upd S.t p y,h:=S.h} fun e S=>match e with
   |.normal=>goC E call fid path pin bid b S fun e S=>match e with
    |.normal=>kn S
    |_=>none
   |_=>none
  |_=>none
 |_=>none
def PA.back (x:PA ρ) (kn:Val (tyL x.cs)->Val (tyL x.vs)->x9 ρ) (S:St):x9 ρ:=match lr x.head x.pin x.cs x.vs S with
 |some (p,v)=>kn p v
 |none=>none
structure PA.Ok (E:Env ρ) (x:PA ρ):Prop where
 one:(((ŵ E.P x.fid).elim [] (Ñ 0)).filter fun y=>Nat.beq y.1 x.bid).length=1
 it:Pn E.P x.it
 tm:∀p v v',(â x.head x.cs x.vs p v').t=(â x.head x.cs x.vs p v).t
 stab:∀p v,(â x.head x.cs x.vs p v).t.all (st3 x.pin)=true
 law:∀p v y (kn:Val (tyL x.cs)->Val (tyL x.vs)->x9 ρ),RF E (ŭ E (10-x.path.length / 2)) x.fid x.path x.pin x.bid (w7 (ŵ E.P x.fid) x.bid) (â x.head x.cs x.vs p v) (enc x.it.et y) (x.back kn)=x.bF p v y (kn p)
def rngK (x:PA ρ) (m:Nat) (g:AV) (S:St) (K:Exit->St->x9 ρ):x9 ρ :=
 match Nat.ble m x.pin with
 |true=>match g with
  |.fn (.func c) [] [.box id 0]=>match Nat.beq c x.it.clo with
   |true=>match lkB S.h id with
    |.cells cs=>match cs.all (fun a=>!yc a)&&(ã S.h id .dead).all (nrB id) with
     |true=>match Ô x.it.ct cs with
      |some d=>match lr x.head x.pin x.cs x.vs {t:=S.t.map (clr id),h:=ã S.h id .dead} with
       |some (p,v)=>Ã (x.it.F d) fun xs=>XY (x.bF p) xs v fun v=>K .normal (bif Nat.blt id x.pin then {t:=(â x.head x.cs x.vs p v).t,h:=ã (â x.head x.cs x.vs p v).h id (.cells (flat x.it.ct d))} else â x.head x.cs x.vs p v)
       |none=>none
      |none=>none
     |false=>none
    |_=>none
   |false=>none
  |_=>none
 |false=>none
structure RJ (g:É) (x:PA ρ) (ν:Nat->Value) (h:y5 Blk) (p:Val (tyL x.cs)) (xs:y5 (Val x.it.et)) (Kf:Val (tyL x.vs)->x9 ρ) (r:ρ) (ν1:Nat->Value) (h1:y5 Blk) (a:Act) (t1:y5 AV) (W1:World) (O X:Nat->Prop) (pre:y5 (Val x.it.et)) (W:World):Prop where
 os:W.os=W1.os
 tape:W.tape=W1.tape
 output:W.output=W1.output
 size:W1.heap.size<=W.heap.size
 nd:∀(k:Nat) (o:Obj),W1.heap[k]?=some o->CD o=false->W.heap[k]?=some o
 ex:∃(ν':Nat->Value) (v':Val (tyL x.vs)) (suf:y5 (Val x.it.et)),xs=pre++suf/\XY (x.bF p) suf v' Kf=some r/\(∀k,O k↔mq ν' (â x.head x.cs x.vs p v').h k) /\
  @HR _ (g.re (fun k=>X k/\¬O k/\k<W.heap.size) [] none 0) ν' (â x.head x.cs x.vs p v').h W /\
  (∀i,@VR _ (g.re (fun k=>X k/\¬O k/\k<W.heap.size) [] none 0) ν' (â x.head x.cs x.vs p v').h W (lk t1 i) (a.tmps.getD i undef)) /\
  (∀b,b<W1.heap.size->¬mq ν h b->¬mq ν' (â x.head x.cs x.vs p v').h b) /\
  (∀id,id<x.pin->(lkB h1 id).next ν1 ν' id (lkB (â x.head x.cs x.vs p v').h id))/\Dd x.pin h1 (â x.head x.cs x.vs p v').h
section
variable {g:É} {x:PA ρ} {ν:Nat->Value} {h:y5 Blk} {p:Val (tyL x.cs)} {xs:y5 (Val x.it.et)} {Kf:Val (tyL x.vs)->x9 ρ} {r:ρ} {ν1:Nat->Value} {h1:y5 Blk} {a:Act} {t1:y5 AV} {W1:World}
def RJ.st (s:g.B<=W1.heap.size) {O X X':Nat->Prop} {d:y5 (Val x.it.et)} {W l:World} (H:RJ g x ν h p xs Kf r ν1 h1 a t1 W1 O X d W) (S:StepJ W1.heap.size O X W X' l):RJ g x ν h p xs Kf r ν1 h1 a t1 W1 O X' d l:=by
 obtain⟨U,T,R,N,L,ν',e,m,J,I,n,G,F,E,C,A⟩:=H;have av:∀b,@Av _ (g.re (fun k=>X k/\¬O k/\k<W.heap.size) [] none 0) ν' (â x.head x.cs x.vs p e).h b↔mq ν' (â x.head x.cs x.vs p e).h b\/(X b/\¬O b/\b<W.heap.size):=fun b=>Iff.rfl
 have z:gu (g.re (fun k=>X k/\¬O k/\k<W.heap.size) [] none 0) ν' (â x.head x.cs x.vs p e).h W (fun k=>X' k/\¬O k/\k<l.heap.size) l:=by
  refine⟨S.os,S.tape,S.output,S.size,fun b hb v j=>?_,fun b o hb c j=>?_,fun b o hb c q=>S.nd b o hb c (cf q s),S.gl⟩
  ·rw[av] at v;exact S.av b hb (fun u=>v (.inr ⟨u,j.2.1,hb⟩)) j.1
  ·refine S.dat b o hb c fun u=>?_;rcases Classical.em (O b) with h'|h'
   ·exact h'
   ·exact(n b).2 (j ((av b).2 (.inr ⟨u,h',Ù hb⟩)))
 refine⟨S.os.trans U,S.tape.trans T,S.output.trans R,cg N S.size,fun k o y c=>S.nd k o (L k o y c) c (Ù y),ν',e,m,J,I,n,?_,fun i=>?_,E,C,A⟩
 ·exact HR.step (g:=g.re (fun k=>X k/\¬O k/\k<W.heap.size) [] none 0) (D:=[]) (Q:=none) (M:=0) z (fun b hb=>hb.2.2) (fun b K hb=>hb.2.1 ((n b).2 K)) G
 ·exact VR.step (g:=g.re (fun k=>X k/\¬O k/\k<W.heap.size) [] none 0) (D:=[]) (Q:=none) (M:=0) z (F i)
def atP {x:PA ρ} (p:Val (tyL x.cs)) (k:Val (tyL x.vs)->x9 ρ) (b:Val (tyL x.cs)) (v:Val (tyL x.vs)):x9 ρ:=open Classical in if b=p then k v else none
def abz {x:PA ρ} (p:Val (tyL x.cs)) (k:Val (tyL x.vs)->x9 ρ):atP p k p=k:=by
 funext v; unfold atP; rw[if_pos rfl]
def aby {x:PA ρ} {p b:Val (tyL x.cs)} {k:Val (tyL x.vs)->x9 ρ} {v:Val (tyL x.vs)} {r:ρ} (h:atP p k b v=some r):b=p/\k v=some r:=by
 unfold atP at h
 split at h
 ·exact⟨‹_›,h⟩
 ·cases h
def XN (ν:Nat->Value) (h:y5 Blk):∃us:Array Value,∀b,Ĝ (.agg us) b↔mq ν h b:=by
 have s:∀n,∃l:y5 Value,∀b,(∃u∈l,iT u=some b)↔∃id,id<n/\(lkB h id).live=true/\Ĝ (ν id) b:=by
  intro n
  induction n with
  |zero=>exact⟨[],fun b=>⟨fun⟨u,d,_⟩=>(by cases d),fun⟨_,hi,_⟩=>(by omega)⟩⟩
  |succ n z =>
   obtain⟨l,o⟩:=z
   obtain⟨m,y⟩:∃m:y5 Value,∀b,(∃u∈m,iT u=some b)↔((lkB h n).live=true/\Ĝ (ν n) b):=by
    cases A:(lkB h n).live with
    |false=>exact⟨[],fun b=>⟨fun⟨u,d,_⟩=>(by cases d),fun⟨q,_⟩=>(by cases q)⟩⟩
    |true =>
     cases B:ν n with
     |agg vs=>exact⟨vs.toList,fun b=>⟨fun q=>⟨rfl,q⟩,fun q=>q.2⟩⟩
     |pointer a=>exact⟨[.pointer a],fun b=>⟨fun⟨u,d,q⟩=>⟨rfl,by rw[ce.1 d] at q; exact q⟩,fun q=>⟨_,.head _,q.2⟩⟩⟩
     |slice a k c=>exact⟨[.slice a k c],fun b=>⟨fun⟨u,d,q⟩=>⟨rfl,by rw[ce.1 d] at q; exact q⟩,fun q=>⟨_,.head _,q.2⟩⟩⟩
     |map r=>exact⟨[.map r],fun b=>⟨fun⟨u,d,q⟩=>⟨rfl,by rw[ce.1 d] at q; exact q⟩,fun q=>⟨_,.head _,q.2⟩⟩⟩
     |_=>exact⟨[],fun b=>⟨fun⟨u,d,_⟩=>(by cases d),fun q=>q.2.elim⟩⟩
   refine⟨l++m,fun b=>⟨fun⟨u,d,q⟩=>?_,fun⟨i,hi,e,j⟩=>?_⟩⟩
   ·rcases b8.1 d with d|d
    ·obtain⟨i,hi,e⟩:=(o b).1 ⟨u,d,q⟩;exact⟨i,by omega,e⟩
    ·exact⟨n,by omega,(y b).1 ⟨u,d,q⟩⟩
   ·rcases fR.1 hi with h1|rfl
    ·obtain⟨u,d,q⟩:=(o b).2 ⟨i,h1,e,j⟩;exact⟨u,dh _ d,q⟩
    ·obtain⟨u,d,q⟩:=(y b).2 ⟨e,j⟩;exact⟨u,cJ _ d,q⟩
 obtain⟨l,o⟩:=s h.length;refine⟨l.toArray,fun b=>⟨fun q=>?_,fun⟨id,e,j⟩=>?_⟩⟩
 ·obtain⟨id,_,e,j⟩:=(o b).1 (by simpa using q);exact⟨id,e,j⟩
 ·have v:id<h.length:=by
   rcases cW id h.length with h'|h'
   ·exact h'
   ·letI:É:=Gh fun _=>False
    rw[sL _ _ h'] at e; cases e
  simpa using(o b).2 ⟨id,v,e,j⟩
def ŏ {w:World} {l:Nat} {o':Obj} {c:Loop} (d:w.heap[l]?=some (.loop c)) (b:Nat) (o:Obj) (hb:w.heap[b]?=some o) (hd:CD o=true\/b≠l):(w.putObj l o').heap[b]?=some o:=by
 have:b≠l:=fun e=>by
  subst e;rcases hd with hd|hd
  ·rw[d] at hb; cases hb; cases hd
  ·exact hd rfl
 rw[World.putObj_heap_other this]; exact hb
def D8 {w:World} {l:Nat} {o':Obj} {d:Loop} (e:w.heap[l]?=some (.loop d)) (c:Globs.Φ w) (b:Nat) (hb:b<Globs.n):(w.putObj l o').heap[b]?=w.heap[b]?:=by
 obtain⟨o,h1,h2⟩:=Globs.dat w c b hb;rw[h1]; exact ŏ e b o h1 (.inl h2)
def RJ.round {E:Env ρ} {N:Nat} {call:y5 Nat->Bool->Nat->y5 AV->y5 Blk->(AV->y5 Blk->x9 ρ)->x9 ρ} (hEnv:∀[É],Ι E->gN E N call) (hDraw:∀[É],gN E N call->kd E N call) (R:x.path.length+2=N) (hy:@Ι _ g ρ E)
 {gop:Operand} {ps:Array Tmp} {A Bd:Code} {p0:Tmp} (hps:ps.toList=[p0]) (hL:∀[É],Ι E->∀z∈Ñ x.bid A++Ñ x.bid Bd,iy E x.path x.fid z.1 z.2)
 (hag:x.it.et.isAgg=false) (htm:∀p v v',(â x.head x.cs x.vs p v').t=(â x.head x.cs x.vs p v).t) (hst:∀p v,(â x.head x.cs x.vs p v).t.all (st3 x.pin)=true)
 (hlen:∀v,x.pin<=(â x.head x.cs x.vs p v).h.length)
 (law:∀p v y (kn:Val (tyL x.cs)->Val (tyL x.vs)->x9 ρ),RF E call x.fid x.path x.pin x.bid (.rf gop ps A Bd) (â x.head x.cs x.vs p v) (enc x.it.et y) (fun S=>match lr x.head x.pin x.cs x.vs S with
  |some (p,v)=>kn p v
  |none=>none)=x.bF p v y (kn p))
 {J:FuncId} {dn:Nat} {l:Nat} (hl1:W1.heap[l]?=some (.loop {state:=.ready,pending:=none,fn:=J,tmps:=a.tmps,params:=ps,assign:=A,body:=Bd,defers:=dn})) (hgl:g.B<=l) (hgB:g.B<=W1.heap.size) (ht1:∃v,t1=(â x.head x.cs x.vs p v).t) (htl:t1.length<=a.tmps.size)
 {O X:Nat->Prop} {pre:y5 (Val x.it.et)} {y:Val x.it.et} {u:Value} {W:World} (H:RJ g x ν h p xs Kf r ν1 h1 a t1 W1 O X pre W) (hOX:∀b,O b->X b) (hXs:∀b,X b->b<W.heap.size) (hpre:pre++[y] <+: xs) (hcr:CR W X x.it.et y [u]) :
 YieldAt Fence.wide 0 E.P l #[u] W fun e W'=>e=.returned (.bool true)/\W'.os=W.os/\W'.tape=W.tape/\W'.output=W.output/\W.heap.size<=W'.heap.size /\
  ∃us,(∀b,b<W.heap.size->¬O b->W'.heap[b]?=W.heap[b]?/\¬Ĝ (.agg us) b)/\(∀b,Ĝ (.agg us) b->∃o,W'.heap[b]?=some o/\CD o=true)/\RJ g x ν h p xs Kf r ν1 h1 a t1 W1 (Ĝ (.agg us)) (fun b=>(X b/\¬O b)\/Ĝ (.agg us) b) (pre++[y]) W':=by
 obtain⟨e1,e2,e3,e4,e5,ν',v',suf,q1,q2,q3,q4,q5,q6,q7,q8⟩:=H
 -- what is yielded is what comes next
 obtain⟨n,rfl⟩:∃n,suf=y::n:=by
  obtain⟨s,hs⟩:=hpre;rw[q1,cq] at hs;exact⟨s,(List.append_cancel_left hs).symm⟩
 have hl:W.heap[l]?=_:=e5 l _ hl1 rfl;obtain⟨GX,hGX⟩:∃GX:Nat->Prop,GX=fun k=>X k/\¬O k/\k<W.heap.size:=⟨_,rfl⟩;rw[<-hGX] at q4 q5
 letI gr:É:=g.re GX [] (some l) W.heap.size
 have hyr:Ι E:=hy;have hE:=hEnv hyr;have hD:=hDraw hE;obtain⟨S,hS⟩:∃S,S=â x.head x.cs x.vs p v':=⟨_,rfl⟩
 have hSt:S.t=t1:=by obtain⟨v0,h0⟩:=ht1; rw[hS,h0]; exact htm p v0 v'
 have hlen':x.pin<=S.h.length:=by rw[hS]; exact hlen v'
 rw[<-hS] at q3 q4 q5 q6 q7 q8;have H0:HR ν' S.h W:=HR.re (g:=g.re GX [] none 0) q4
 have V0:∀i,VR ν' S.h W (lk S.t i) (a.tmps.getD i undef):=fun i=>by rw[hSt]; exact q5 i
 have avX:∀b,Av ν' S.h b->X b:=fun b hb=>by
  rcases hb with hb|hb
  ·exact hOX b ((q3 b).2 hb)
  ·have hb:GX b:=hb;rw[hGX] at hb; exact hb.1
 have hu:VR ν' S.h W (enc x.it.et y) u:=adx hag (CR.mono avX hcr);have fr0:∀(W2:World) (r2:Loop),W2.heap[l]?=some (.loop r2)->W.heap.size<=W2.heap.size->Fr W2 []:=fun W2 r2 h2 h3=>⟨⟨[],rfl,dT,fun _ q=>(by cases q)⟩,fun l' e=>by cases e; exact⟨r2,h2⟩,cg hgB e4,h3⟩
 have sim0:Sim ν' {t:=upd S.t p0 (enc x.it.et y),h:=S.h} {tmps:=a.tmps.setIfInBounds p0 u,defers:=[]} W:=by
  have s0:Sim ν' S {tmps:=a.tmps,defers:=[]} W:=⟨fr0 W _ hl (bX _),by rw[hSt]; exact htl,V0,H0⟩;exact s0.put (Ev.refl _ _ _ _) H0 (some p0) hu
 -- the law
 have C:=law p v' y (atP p fun v=>XY (x.bF p) n v Kf);rw[abz,show x.bF p v' y (fun v=>XY (x.bF p) n v Kf)=some r from q2,<-hS] at C;unfold RF at C;simp only[hps] at C;have hLr:∀z∈Ñ x.bid A++Ñ x.bid Bd,iy E x.path x.fid z.1 z.2:=hL hyr;have hgo:=kL hE R A x.bid _ _ ν' _ W (fun _=>hD) (fun z hz=>hLr z (List.mem_append_left _ hz)) C sim0 hlen'
 have htm0:((ps.zip #[u]).foldl (fun t (p,v)=>t.setIfInBounds p v) a.tmps)=a.tmps.setIfInBounds p0 u:=by
  have:ps=#[p0]:=by rw[<-cD,hps]
  rw[this]; simp
 refine ⟨_, _, _, _, run_yield hl (by have : ps = #[p0] := by (rw [<- cD, hps])
                                      rw[this]; rfl),?_⟩
 rw[htm0];refine roundIn_of_wpIn (F:=Fence.wide) trivial (wpIn_mono (show A.wpIn (Fence.wide.inRound l) 0 E.P _ _ W from hgo) fun e aA WA hA=>?_);obtain⟨Y,SA,sA,j,lnA,ddA,kA⟩:=hA
 cases e with
 |normal =>
  simp only at kA;have T:WA.heap[l]?=some (.loop _):=H0.nd j l _ hl rfl;refine⟨_,run_beginRound T rfl,?_⟩;have d:gu gr Y SA.h WA gr.G (WA.putObj l (.loop {state:=.busy,pending:=none,fn:=J,tmps:=a.tmps,params:=ps,assign:=A,body:=Bd,defers:=dn})):=gu.nds rfl rfl rfl (by simp) fun b o hb hd=>ŏ T b o hb (hd.imp id fun hlt=>by have:b<g.B:=hlt; omega);obtain⟨Wb,hWb⟩:∃Wb,Wb=WA.putObj l (.loop {state:=.busy,pending:=none,fn:=J,tmps:=a.tmps,params:=ps,assign:=A,body:=Bd,defers:=dn}):=⟨_,rfl⟩;rw[<-hWb] at d ⊢
  have hlb:Wb.heap[l]?=some (.loop {state:=.busy,pending:=none,fn:=J,tmps:=a.tmps,params:=ps,assign:=A,body:=Bd,defers:=dn}):=by rw[hWb]; exact World.putObj_heap_same (Ù T)
  have sB:Sim Y SA aA Wb:=by
   refine⟨?_,sA.len,fun i=>VR.step (g:=gr) (D:=[]) (Q:=some l) (M:=W.heap.size) d (sA.tmps i),HR.step (g:=gr) (D:=[]) (Q:=some l) (M:=W.heap.size) d (fun b hb=>cf (sA.heap.ghlt b hb) d.size) (fun b ⟨i,hi,hb⟩=>sA.heap.ghne i b hi hb) sA.heap⟩;obtain⟨⟨ms,m1,m2,m3⟩,_,m4,m5⟩:=sA.defers;refine⟨⟨ms,m1,m2,fun k hk=>⟨?_,(m3 k hk).2⟩⟩,fun l' e=>by cases e; exact⟨_,hlb⟩,m4,cg m5 d.size⟩;rw[hWb];exact ŏ T k _ (m3 k hk).1 (.inr fun e=>by have hk0:=(m3 k hk).1; rw[e,T] at hk0; cases hk0)
  have hgo2:=kL hE R Bd x.bid _ _ Y _ Wb (fun _=>hD) (fun z hz=>hLr z (cJ _ hz)) kA sB lnA;refine wpIn_mono (show Bd.wpIn (Fence.wide.inRound l) 0 E.P _ _ Wb from hgo2) fun e aC WC hC=>?_;obtain⟨νC,SC,sC,m,lnC,ddC,L⟩:=hC
  cases e with
  |normal =>
   simp only at L
   split at L<;>try (cases L; done)
   rename_i p' Z hm;obtain⟨hp',L⟩:=aby L;subst hp';obtain⟨V,sD,evD,lnD,ddD⟩:=jI _ _ _ _ _ _ _ νC aC WC hm sC;have I:WC.heap[l]?=some (.loop _):=sB.heap.nd m l _ hlb rfl;have hrun:=run_endRound (P:=E.P) none I;obtain⟨K,c⟩:∃K,K=WC.putObj l (.loop {state:=.ready,pending:=none,fn:=J,tmps:=a.tmps,params:=ps,assign:=A,body:=Bd,defers:=dn}):=⟨_,rfl⟩;refine⟨_,K,by rw[c]; exact hrun,rfl,?_⟩;have hWs:W.heap.size<=WC.heap.size:=cg j.size (cg d.size m.size)
   have s4:K.heap.size=WC.heap.size:=by rw[c]; simp
   have h4l:K.heap[l]?=some (.loop {state:=.ready,pending:=none,fn:=J,tmps:=a.tmps,params:=ps,assign:=A,body:=Bd,defers:=dn}):=by rw[c]; exact World.putObj_heap_same (Ù I)
   have h4o:∀b,b≠l->K.heap[b]?=WC.heap[b]?:=fun b hb=>by rw[c]; exact World.putObj_heap_other hb
   have hbo:∀b,b≠l->Wb.heap[b]?=WA.heap[b]?:=fun b hb=>by rw[hWb]; exact World.putObj_heap_other hb
   have U:∀b,b<W.heap.size->¬mq ν' S.h b->K.heap[b]?=W.heap[b]?/\¬mq V (â x.head x.cs x.vs p' Z).h b:=fun b hb hn=>by
    obtain⟨k1,k2⟩:=j.keep b hb hn;obtain⟨k3,k4⟩:=m.keep b (cf hb (cg j.size d.size)) k2;obtain⟨k5,k6⟩:=evD.keep b (cf hb hWs) k4;refine⟨?_,k6⟩
    by_cases hbl:b=l
    ·rw[hbl,h4l,hl]
    ·rw[h4o b hbl,k3,hbo b hbl,k1]
   obtain⟨us,hus⟩:=XN V (â x.head x.cs x.vs p' Z).h
   have o4:K.os=W.os/\K.tape=W.tape/\K.output=W.output:=by
    rw[c];exact⟨m.os.trans (d.os.trans j.os),m.tape.trans (d.tape.trans j.tape),m.output.trans (d.output.trans j.output)⟩
   have KG4:gu gr V (â x.head x.cs x.vs p' Z).h WC (fun k=>((X k/\¬O k)\/Ĝ (.agg us) k)/\¬Ĝ (.agg us) k/\k<K.heap.size) K:=by
    refine⟨by rw[c]; rfl,by rw[c]; rfl,by rw[c]; rfl,ez s4.symm,fun b hb hn hx=>?_,fun b o hb ho _=>?_,fun b o hb ho hlt=>?_,fun hΦ b hb=>by rw[c]; exact D8 I hΦ b hb⟩
    ·obtain⟨hx1,hx2,_⟩:=hx;obtain⟨hx3,hx4⟩:=hx1.resolve_right hx2;refine hn (.inr ?_);show GX b;rw[hGX]; exact⟨hx3,hx4,hXs b hx3⟩
    ·rw[c]; exact ŏ I b o hb (.inl ho)
    ·rw[c]; exact ŏ I b o hb (.inr fun e=>by have:b<g.B:=hlt; omega)
   refine⟨o4.1,o4.2.1,o4.2.2,by rw[s4]; exact hWs,us,fun b hb hn=>?_,fun b hb=>?_,?_⟩
   ·obtain⟨k1,k2⟩:=U b hb fun hL=>hn ((q3 b).2 hL);exact⟨k1,fun q=>k2 ((hus b).1 q)⟩
   ·obtain⟨o,k1,k2⟩:=sD.heap.dat ((hus b).1 hb);exact⟨o,by rw[c]; exact ŏ I b o k1 (.inl k2),k2⟩
   ·refine⟨o4.1.trans e1,o4.2.1.trans e2,o4.2.2.trans e3,cg e4 (by rw[s4]; exact hWs),fun k o hk ho=>?_,V,Z,n,by rw[q1,cq]; rfl,L,hus,?_,fun i=>?_,fun b hb hn=>?_,fun id hid=>?_,?_⟩
    ·by_cases hkl:k=l
     ·rw[hkl] at hk ⊢;rw[h4l,<-hl1,hk]
     ·rw[h4o k hkl];have k1:=H0.nd j k o (e5 k o hk ho) ho;have k2:Wb.heap[k]?=some o:=(hbo k hkl).trans k1;exact sB.heap.nd m k o k2 ho
    ·exact HR.step (g:=gr) (D:=[]) (Q:=none) (M:=0) KG4 (fun b hb=>hb.2.2) (fun b hl hb=>hb.2.1 ((hus b).2 hl)) sD.heap
    ·have hs3:st3 x.pin (lk t1 i)=true:=by
      rw[<-hSt,hS];exact lk_all rfl _ (hst p' v') i
     have v1:VR ν' S.h W (lk t1 i) (a.tmps.getD i undef):=by rw[<-hSt]; exact V0 i
     have v2:=VR.stab j hs3 v1;have v3:VR Y SA.h Wb (lk t1 i) (a.tmps.getD i undef):=VR.step (g:=gr) (D:=[]) (Q:=some l) (M:=W.heap.size) d v2;have v4:=VR.stab evD hs3 (VR.stab m hs3 v3);exact VR.step (g:=gr) (D:=[]) (Q:=none) (M:=0) KG4 v4
    ·exact(U b (cf hb e4) (q6 b hb hn)).2
    ·exact Blk.next_trans (Blk.next_trans (Blk.next_trans (q7 id hid) (j.blk id hid)) (m.blk id hid)) (evD.blk id hid)
    ·exact((q8.trans ddA (bX _)).trans ddC (bX _)).trans ddD (bX _)
  |exit id=>cases L
  |goto l=>cases L
  |ret=>cases L
  |panic ch=>cases L
  |outgrown=>cases L
 |exit id=>cases kA
 |goto l=>cases kA
 |ret=>cases kA
 |panic ch=>cases kA
 |outgrown=>cases kA
def Ot (T:Tpl) (cs vs:y5 Ty) (p:Val (tyL cs)) (v:Val (tyL vs)):(â T cs vs p v).h.length=T.heap.length:=by
 letI:É:=Gh fun _=>False
 unfold â;exact oT _ _
def Wi {E:Env ρ} {N:Nat} {call:y5 Nat->Bool->Nat->y5 AV->y5 Blk->(AV->y5 Blk->x9 ρ)->x9 ρ} (hEnv:∀[É],Ι E->gN E N call) (hDraw:∀[É],gN E N call->kd E N call) (hpath:x.path.length+2=N) (hy:@Ι _ g ρ E)
 {gop:Operand} {ps:Array Tmp} {A Bd:Code} (hL:∀[É],Ι E->∀z∈Ñ x.bid A++Ñ x.bid Bd,iy E x.path x.fid z.1 z.2)
 (hit:Pn E.P x.it) (htm:∀p v v',(â x.head x.cs x.vs p v').t=(â x.head x.cs x.vs p v).t) (hst:∀p v,(â x.head x.cs x.vs p v).t.all (st3 x.pin)=true)
 (law:∀p v y (kn:Val (tyL x.cs)->Val (tyL x.vs)->x9 ρ),RF E call x.fid x.path x.pin x.bid (.rf gop ps A Bd) (â x.head x.cs x.vs p v) (enc x.it.et y) (fun S=>match lr x.head x.pin x.cs x.vs S with
  |some (p,v)=>kn p v
  |none=>none)=x.bF p v y (kn p)) (hps:∃p0,ps.toList=[p0])
 (hplain : ∀ (f : Nat) (fn : Func), E.P.funcs[f]? = some fn -> (fn.name == "runtime.NumGoroutine") = false)
 {m:Nat} {S:St} {K:Exit->St->x9 ρ} {r:ρ} {ν:Nat->Value} {a:Act} {w:World} (e:rngK x m (ev S.t gop) S K=some r) (H:@Sim _ g ν S a w) (hm:m<=S.h.length) :
 (Code.rangeFunc gop ps A Bd).wpIn (@fen _ g) 0 E.P (@Pw _ g ρ m ν S.h w K r) a w:=by
 obtain⟨p0,hps⟩:=hps;unfold rngK at e
 split at e<;>try (cases e; done)
 rename_i hmp;have hmp:m<=x.pin:=dl hmp
 split at e<;>try (cases e; done)
 rename_i c id hg
 split at e<;>try (cases e; done)
 rename_i hcm;obtain rfl:=cd hcm
 split at e<;>try (cases e; done)
 rename_i cs hl
 split at e<;>try (cases e; done)
 rename_i hchk;simp only[bZ] at hchk;obtain⟨hown,hnr⟩:=hchk
 split at e<;>try (cases e; done)
 rename_i d hd
 split at e<;>try (cases e; done)
 rename_i p v hmt;simp only[Ã] at e
 split at e<;>try (cases e; done)
 rename_i xs hxs
 -- the iterator
 have hH:=@Sim.heap _ g _ _ _ _ H;have hbid:=@HR.blk _ g _ _ _ hH id;rw[hl] at hbid;obtain⟨b0,cb,te,hν,hb0,hcells⟩:=hbid;have hgv:@VR _ g ν S.h w (ev S.t gop) (a.eval gop):=@ċ _ g _ _ _ _ H gop;rw[hg] at hgv;obtain⟨fs,cps,hge,hfs,hcps⟩:=hgv
 have hfs0:fs=#[]:=by rw[<-cD]; exact hfs.nil_left
 obtain⟨uc,hu1,hu2⟩:=hcps.one
 have huc:uc=.pointer (some ⟨b0,0,none⟩):=by
  obtain⟨_,b',_,q1,q2⟩:=hu2;rw[hν] at q1; cases q1; exact q2
 have hcps0:cps=#[.pointer (some ⟨b0,0,none⟩)]:=by rw[<-cD,hu1,huc]
 rw[hfs0,hcps0] at hge
 -- the box is let go
 obtain⟨h0,hh0⟩:∃h0,h0=ã S.h id .dead:=⟨_,rfl⟩;have hid:id<S.h.length:=ĭ hl (by simp)
 letI g1:É:=g.re (sM g b0) g.D g.Q g.M
 have H1:HR ν h0 w:=by rw[hh0]; exact Yf hl hν hnr hH
 have sim1:Sim ν {t:=S.t.map (clr id),h:=h0} a w:=by
  refine⟨@Sim.defers _ g _ _ _ _ H,by rw[List.length_map]; exact @Sim.len _ g _ _ _ _ H,fun i=>?_,H1⟩;show VR ν h0 w (lk (S.t.map (clr id)) i) _;rw[Xs rfl,hh0];unfold clr
  split
  ·exact Ye hl hν ‹_› (@Sim.tmps _ g _ _ _ _ H i)
  ·trivial
 rw[<-hh0] at hmt;obtain⟨ν1,sim2,ev1,hp1,dd1⟩:=jI _ _ _ _ _ _ _ ν a w hmt sim1;obtain⟨S1,hS1⟩:∃S1,S1=â x.head x.cs x.vs p v:=⟨_,rfl⟩;rw[<-hS1] at sim2 ev1 hp1 dd1
 have hlen:∀v,x.pin<=(â x.head x.cs x.vs p v).h.length:=fun v'=>by rw[Ot,<-Ot x.head x.cs x.vs p v,<-hS1]; exact hp1
 have L01:∀b,mq ν1 S1.h b->mq ν h0 b:=fun b hb=>Classical.byContradiction fun hn=>(ev1.keep b (sim2.heap.lt hb) hn).2 hb
 have L0:∀b,mq ν h0 b->mq ν S.h b/\b≠b0:=fun b ⟨j,hj,ho⟩=>by
  rw[hh0,oR] at hj
  split at hj
  ·cases hj
  ·rename_i hne;refine⟨⟨j,hj,ho⟩,fun eb=>hne ⟨?_,hid⟩⟩;exact @HR.inj _ g _ _ _ hH j id b hj (by rw[hl]; rfl) ho (by rw[hν,eb]; rfl)
 have hb0L:mq ν S.h b0:=⟨id,by rw[hl]; rfl,by rw[hν]; rfl⟩
 -- what is known of the frame
 have hfr:=@Sim.defers _ g _ _ _ _ H;have hgBw:g.B<=w.heap.size:=cg hfr.2.2.1 hfr.2.2.2;refine wpIn_rangeFunc ?_;intro fn hfn
 -- the record
 obtain⟨l,marks,dn,W1,henter,hl1,hlw,hW1s,hW1o,hW1d,hmarks⟩:∃(l:Nat) (marks:y5 Nat) (dn:Nat) (W1:World),(Instr.enterLoop fn a.tmps ps A Bd (@fen _ g).round).run E.P w=.ok (l,marks.map mk1) W1 /\
  W1.heap[l]?=some (.loop {state:=.ready,pending:=none,fn:=fn,tmps:=a.tmps,params:=ps,assign:=A,body:=Bd,defers:=dn})/\w.heap.size<=l/\w.heap.size<=W1.heap.size/\(W1.os=w.os/\W1.tape=w.tape/\W1.output=w.output)/\(∀b,b<w.heap.size->W1.heap[b]?=w.heap[b]?) /\
  (marks.Nodup/\∀k∈marks,W1.heap[k]?=some (.deferred (some []))/\w.heap.size<=k):=by
  have hro:(@fen _ g).round=g.Q:=rfl;rw[hro]
  cases hQ:g.Q with
  |none =>
   refine⟨w.heap.size+1,[w.heap.size],w.heap.size,_,run_enterLoop_outer _ _ _ _ _,?_,by omega,by simp; omega,⟨rfl,rfl,rfl⟩,fun b hb=>?_,by simp,fun k hk=>?_⟩
   ·have:=World.alloc_heap_new (w.alloc (.deferred (some []))) (.loop {state:=.ready,pending:=none,fn:=fn,tmps:=a.tmps,params:=ps,assign:=A,body:=Bd,defers:=w.heap.size})
    rwa [World.size_alloc] at this
   ·rw[RowKit.Below.heap_alloc _ _ _ (by simp; omega),RowKit.Below.heap_alloc _ _ _ hb]
   ·rw[ce.1 hk];exact⟨(RowKit.Below.heap_alloc _ _ _ (by simp)).trans (World.alloc_heap_new w _),bX _⟩
  |some l0 =>
   obtain⟨r0,hr0⟩:=hfr.2.1 l0 hQ;refine⟨w.heap.size,[],r0.defers,_,run_enterLoop_inner hr0 _ _ _ _ _,World.alloc_heap_new _ _,bX _,by simp,⟨rfl,rfl,rfl⟩,fun b hb=>RowKit.Below.heap_alloc _ _ _ hb,dT,fun k hk=>by cases hk⟩
 obtain⟨hmn,hmk⟩:=hmarks;have hlW1:l<W1.heap.size:=Ù hl1;have hold:∀(b:Nat) (o:Obj),w.heap[b]?=some o->W1.heap[b]?=some o:=fun b o hb=>(hW1d b (Ù hb)).trans hb
 -- what the loop's body gets
 obtain⟨us0,hus0⟩:=XN ν1 S1.h;obtain⟨Kf,hKf⟩:∃Kf:Val (tyL x.vs)->x9 ρ,Kf=fun v=>K .normal (bif Nat.blt id x.pin then {t:=(â x.head x.cs x.vs p v).t,h:=ã (â x.head x.cs x.vs p v).h id (.cells (flat x.it.ct d))} else â x.head x.cs x.vs p v):=⟨_,rfl⟩;rw[<-hKf] at e;have htl:S1.t.length<=a.tmps.size:=sim2.len
 letI gp:É:=⟨g.G,[],none,W1.heap.size,l,W1.heap.size,x.it.et,RJ g x ν S.h p xs Kf r ν1 S1.h a S1.t W1,fun O X X' pre W W' hJ hS=>RJ.st (cg hgBw hW1s) hJ hS⟩
 have hgl:g.B<=l:=cg hgBw hlw;have hgB1:g.B<=W1.heap.size:=cg hgBw hW1s;have hyp:@YldP _ gp E.P ⟨x.it.et,xs,false⟩:=⟨rfl,fun O X pre y u W hJ hOX hXs hpre hcr hB=>RJ.round hEnv hDraw hpath hy hps hL hit.agg htm hst hlen law hl1 hgl hgB1 ⟨v,by rw[hS1]⟩ htl hJ hOX hXs hpre hcr⟩
 -- the iterator's state
 obtain⟨νp,hνp⟩:∃νp:Nat->Value,νp=fun n=>if n=0 then .agg us0 else if n=1 then .pointer (some ⟨b0,0,none⟩) else undef:=⟨_,rfl⟩
 have n0:νp 0=.agg us0:=by rw[hνp]; rfl
 have n1:νp 1=.pointer (some ⟨b0,0,none⟩):=by rw[hνp]; rfl
 have Lp:∀k,mq νp (iY x.it d) k->Ĝ (.agg us0) k\/k=b0:=by
  rintro k ⟨i,hi,ho⟩
  match i,hi,ho with
  |0,_,ho=>rw[n0] at ho; exact .inl ho
  |1,_,ho=>rw[n1] at ho; cases ho; exact .inr rfl
  |i+2,hi,_=>cases hi
 have OL:∀k,Ĝ (.agg us0) k->mq ν S.h k/\k≠b0:=fun k hk=>L0 k (L01 k ((hus0 k).1 hk))
 have Avp:∀k,@Av _ gp νp (iY x.it d) k->@Av _ g ν S.h k:=fun k hk=>by
  rcases hk with hk|hk
  ·rcases Lp k hk with hk|rfl
   ·exact .inl (OL k hk).1
   ·exact .inl hb0L
  ·exact .inr hk
 have hcr0:CR w (@Av _ g ν S.h) x.it.ct d cb.toList:=ď hd (í.mono (fun _ _ hx=>@VR1.data _ g _ _ _ _ _ hx.1) hcells);have hcr1:CR W1 (@Av _ gp νp (iY x.it d)) x.it.ct d cb.toList:=CR.kx ⟨hW1s,fun b _ hn hx=>hn (Avp b hx),fun b o hb _ _=>hold b o hb⟩ hcr0
 have hJ0:RJ g x ν S.h p xs Kf r ν1 S1.h a S1.t W1 (Ĝ (νp 0)) (@Av _ gp νp (iY x.it d)) [] W1:=by
  have KG:gu g1 ν1 S1.h w (fun k=>@Av _ gp νp (iY x.it d) k/\¬Ĝ (νp 0) k/\k<W1.heap.size) W1:=by
   refine⟨hW1o.1,hW1o.2.1,hW1o.2.2,hW1s,fun b hb hn hx=>?_,fun b o hb _ _=>hold b o hb,fun b o hb _ _=>hold b o hb,fun hΦ b hb=>hW1d b (by obtain⟨o,h1,_⟩:=Globs.dat w hΦ b hb; exact Ù h1)⟩;obtain⟨hx1,hx2,_⟩:=hx;rcases hx1 with hx1|hx1
   ·rcases Lp b hx1 with q|rfl
    ·rw[n0] at hx2; exact hx2 q
    ·exact hn (.inr (.inr rfl))
   ·exact hn (.inr (.inl hx1))
  refine⟨rfl,rfl,rfl,bX _,fun _ _ q _=>q,ν1,v,xs,rfl,e,fun k=>by rw[n0,<-hS1]; exact hus0 k,?_,fun i=>?_,fun b _ hn hL2=>?_,fun i _=>?_,?_⟩
  ·rw[<-hS1];exact HR.step (g:=g1) (D:=[]) (Q:=none) (M:=0) KG (fun b hb=>hb.2.2) (fun b hl2 hb=>hb.2.1 (by rw[n0]; exact(hus0 b).2 hl2)) (@Sim.heap _ g1 _ _ _ _ sim2)
  ·rw[<-hS1];exact VR.step (g:=g1) (D:=[]) (Q:=none) (M:=0) KG (@Sim.tmps _ g1 _ _ _ _ sim2 i)
  ·rw[<-hS1] at hL2;exact hn (L0 b (L01 b hL2)).1
  ·rw[<-hS1]; exact Blk.next_refl _ _ _
  ·rw[<-hS1]; exact Dd.refl _ _
 have Hp:@HR _ gp νp (iY x.it d) W1:=by
  refine @HR.mk _ gp _ _ _ (fun i=>?_) (fun i j b hi hj hbi hbj=>?_) (fun b hb=>cf (@HR.ghlt _ g _ _ _ hH b hb) hW1s) (fun i b hi hbi hg=>?_) (Globs.keep _ _ (@HR.glob _ g _ _ _ hH) fun b hb=>hW1d b (by obtain⟨o,h1,_⟩:=Globs.dat w (@HR.glob _ g _ _ _ hH) b hb; exact Ù h1)) (fun b hb hL=>by
   rcases Lp b hL with q|rfl
   ·exact @HR.globL _ g _ _ _ hH b hb (OL b q).1
   ·exact @HR.globL _ g _ _ _ hH b hb hb0L)
  ·match i with
   |0 =>
    refine⟨us0,n0,fun b hb=>?_,rfl,hJ0⟩;rw[n0] at hb;obtain⟨o,q1,q2⟩:=@HR.dat _ g _ _ _ hH b (OL b hb).1;exact⟨o,hold b o q1,q2⟩
   |1=>exact⟨b0,cb,te,n1,hold _ _ hb0,@jS _ gp νp (iY x.it d) W1 _ _ _ hcr1⟩
   |i+2=>exact trivial
  ·match i,j,hi,hj,hbi,hbj with
   |0,0,_,_,_,_=>rfl
   |1,1,_,_,_,_=>rfl
   |0,1,_,_,hbi,hbj=>rw[n0] at hbi; rw[n1] at hbj; cases hbj; exact absurd rfl (OL _ hbi).2
   |1,0,_,_,hbi,hbj=>rw[n1] at hbi; rw[n0] at hbj; cases hbi; exact absurd rfl (OL _ hbj).2
   |i+2,_,hi,_,_,_=>cases hi
   |_,j+2,_,hj,_,_=>cases hj
  ·have hg:g.G b:=hg;have key:∀k,mq ν S.h k->¬g.G k:=fun k ⟨j,hj,ho⟩=>@HR.ghne _ g _ _ _ hH j k hj ho
   match i,hi,hbi with
   |0,_,hbi=>rw[n0] at hbi; exact key b (OL b hbi).1 hg
   |1,_,hbi=>rw[n1] at hbi; cases hbi; exact key _ hb0L hg
   |i+2,hi,_=>cases hi
 have hargs:í (@VR _ gp νp (iY x.it d) W1) SN [.func (.yield l) #[] #[],.pointer (some ⟨b0,0,none⟩)]:=⟨rfl,⟨flat x.it.ct d,b0,rfl,n1,rfl⟩,trivial⟩;obtain⟨⟨gfn,gc,hgf,hgc⟩,hcall⟩:=hit.ok gp rfl d xs hxs hyp νp W1 _ (bX _) Hp hargs;refine⟨l,marks.map mk1,W1,{target:=.fn (.func x.it.clo) #[.pointer (some ⟨b0,0,none⟩)],args:=#[.func (.yield l) #[] #[]]},W1,x.it.clo,#[.func (.yield l) #[] #[],.pointer (some ⟨b0,0,none⟩)],W1,henter,?_,fun f' _=>trivial,?_,fun q=>(by cases q),?_⟩
 ·simp only[resolve,rangeCall,hge];simp[go_sem]
 ·simp[invoke,callFunc,Sem.run_bind,run_program,Result.andThen_ok,hgf,hgc,hplain x.it.clo gfn hgf];simpa using hplain x.it.clo gfn hgf
 refine CallsIn.mono (show CallsIn (@fen _ g) 0 E.P _ _ _ _ from hcall) fun en W2 hw=>?_;obtain⟨νq,hq,u,rfl,Hq,evq,hacc,csq,hcsq,hdq⟩:=hw
 -- what the loop leaves
 have hBq:=@HR.blk _ gp _ _ _ Hq 0;rw[hacc] at hBq;obtain⟨us2,k1,k2,k3,k4⟩:=hBq;have k4:RJ g x ν S.h p xs Kf r ν1 S1.h a S1.t W1 (Ĝ (νq 0)) (@Av _ gp νq hq) xs W2:=k4;obtain⟨j1,j2,j3,j4,j5,νe,ve,suf,q1,q2,q3,q4,q5,q6,q7,q8⟩:=k4
 have hsuf:suf=[]:=by
  have:=congrArg List.length q1;rw[b7] at this;exact cB.1 (by omega)
 rw[hsuf] at q2;have hke:Kf ve=some r:=q2;have hl2:W2.heap[l]?=_:=j5 l _ hl1 rfl;obtain⟨W3,hW3⟩:∃W3,W3=W2.putObj l (.loop {state:=.exhausted,pending:=none,fn:=fn,tmps:=a.tmps,params:=ps,assign:=A,body:=Bd,defers:=dn}):=⟨_,rfl⟩;refine⟨none,W3,by rw[hW3]; exact run_endLoop (P:=E.P) hl2 (by simp),?_⟩;obtain⟨Se,hSe⟩:∃Se,Se=â x.head x.cs x.vs p ve:=⟨_,rfl⟩;rw[<-hSe] at q3 q4 q5 q6 q7 q8
 have s3:W3.heap.size=W2.heap.size:=by rw[hW3]; simp
 have h3o:∀b,b≠l->W3.heap[b]?=W2.heap[b]?:=fun b hb=>by rw[hW3]; exact World.putObj_heap_other hb
 have hG:∀b,g.G b->@Av _ gp νq hq b/\¬Ĝ (νq 0) b/\b<W2.heap.size:=fun b hb=>⟨.inr hb,fun ho=>@HR.ghne _ gp _ _ _ Hq 0 b (by rw[hacc]; rfl) ho hb,@HR.ghlt _ gp _ _ _ Hq b hb⟩;obtain⟨G2,hG2⟩:∃G2:Nat->Prop,G2=fun k=>@Av _ gp νq hq k/\¬Ĝ (νq 0) k/\k<W2.heap.size:=⟨_,rfl⟩;rw[<-hG2] at q4 q5
 have hGs:∀b,g.G b->G2 b:=fun b hb=>by rw[hG2]; exact hG b hb
 have KG3:gu (g.re G2 [] none 0) νe Se.h W2 G2 W3:=by
  refine⟨by rw[hW3]; rfl,by rw[hW3]; rfl,by rw[hW3]; rfl,ez s3.symm,fun b _ hn hb=>hn (.inr hb),fun b o hb ho _=>?_,fun b o hb ho hlt=>?_,fun hΦ b hb=>by rw[hW3]; exact D8 hl2 hΦ b hb⟩
  ·rw[hW3]; exact ŏ hl2 b o hb (.inl ho)
  ·rw[hW3]; exact ŏ hl2 b o hb (.inr fun q=>by have:b<g.B:=hlt; omega)
 have H3:@HR _ (g.re G2 [] none 0) νe Se.h W3:=HR.step (g:=g.re G2 [] none 0) (D:=[]) (Q:=none) (M:=0) KG3 (fun b hb=>by rw[hG2] at hb; have:=hb.2.2; omega) (fun b hb hg=>by rw[hG2] at hg; exact hg.2.1 ((q3 b).2 hb)) q4;have nd3:∀(k:Nat) (o:Obj),W1.heap[k]?=some o->CD o=false->k≠l->W3.heap[k]?=some o:=fun k o hk ho hkl=>(h3o k hkl).trans (j5 k o hk ho)
 have hSt:Se.t=S1.t:=by rw[hSe,hS1]; exact htm p v ve
 have V3:∀i,@VR _ (g.re G2 [] none 0) νe Se.h W3 (lk Se.t i) (a.tmps.getD i undef):=fun i=>by rw[hSt]; exact VR.step (g:=g.re G2 [] none 0) (D:=[]) (Q:=none) (M:=0) KG3 (q5 i)
 have hfr3:@Fr _ g W3 (marks.map mk1++a.defers):=by
  obtain⟨⟨ms,m1,m2,m3⟩,m4,m5,m6⟩:=hfr;have lt3:∀k∈ms,k<w.heap.size:=fun k hk=>Ù (m3 k hk).1;refine⟨⟨marks++ms,?_,?_,fun k hk=>?_⟩,fun l' hl'=>?_,m5,by omega⟩
  ·rw[m1,fu,cq]
  ·refine fX.2 ⟨hmn,m2,fun k1 h1 k2 h2 q=>?_⟩;have:=(hmk k1 h1).2;have:=lt3 k2 h2;omega
  ·rcases b8.1 hk with hk|hk
   ·obtain⟨z1,z2⟩:=hmk k hk;exact⟨nd3 k _ z1 rfl (fun q=>by rw[q,hl1] at z1; cases z1),cg m6 z2⟩
   ·exact⟨nd3 k _ (hold _ _ (m3 k hk).1) rfl (fun q=>by have:=lt3 k hk; omega),(m3 k hk).2⟩
  ·obtain⟨r',hr'⟩:=m4 l' hl';exact⟨r',nd3 l' _ (hold _ _ hr') rfl (fun q=>by have:=Ù hr'; omega)⟩
 have ple:x.pin<=Se.h.length:=by rw[hSe]; exact hlen ve
 have blk3:∀i,i<m->i≠id->(lkB S.h i).next ν νe i (lkB Se.h i):=fun i hi hne=>by
  have z1:lkB h0 i=lkB S.h i:=by rw[hh0]; exact Ì _ hne
  have z2:=ev1.blk i (cf hi hmp);rw[z1] at z2;exact Blk.next_trans z2 (q7 i (cf hi hmp))
 have dd3:∀j,j<m->lkB S.h j=.dead->j≠id/\lkB Se.h j=.dead:=fun j hj hd2=>by
  have hne:j≠id:=fun q=>by rw[q,hl] at hd2; cases hd2
  have z1:lkB h0 j=.dead:=by rw[hh0,Ì _ hne]; exact hd2
  exact⟨hne,q8 j (by omega) (dd1 j (by omega) z1)⟩
 have keep3:∀b,b<w.heap.size->¬mq ν S.h b->W3.heap[b]?=w.heap[b]?:=fun b hb hn=>by
  rw[h3o b (by omega),(evq.keep b (by omega) fun hL2=>?_).1,hW1d b hb];rcases Lp b hL2 with q|rfl
  ·exact hn (OL b q).1
  ·exact hn hb0L
 have oss:W3.os=w.os/\W3.tape=w.tape/\W3.output=w.output:=by
  rw[hW3];exact⟨j1.trans hW1o.1,j2.trans hW1o.2.1,j3.trans hW1o.2.2⟩
 have sz3:w.heap.size<=W3.heap.size:=by omega
 rw[hKf] at hke;simp only[<-hSe] at hke
 by_cases hip:id<x.pin
 ·-- the box is there again
  have hbt:Nat.blt id x.pin=true:=f9 hip;rw[hbt] at hke;have hd0:lkB Se.h id=.dead:=q8 id hip (dd1 id hip (by rw[hh0]; exact Ø _ hid));have hidl:id<Se.h.length:=cf hip ple;have hq1:=evq.blk 1 (by omega)
  have hν1:νq 1=.pointer (some ⟨b0,0,none⟩):=by
   have:(lkB (iY x.it d) 1)=.cells (flat x.it.ct d):=rfl;rw[this] at hq1;exact hq1.2.trans n1
  have hq1b:=@HR.blk _ gp _ _ _ Hq 1;rw[hcsq] at hq1b;obtain⟨b1,c1,e1',z1,z2,z3⟩:=hq1b;rw[hν1] at z1;cases z1
  have lv1:(lkB hq 1).live=true:=by rw[hcsq]; rfl
  have lv0:(lkB hq 0).live=true:=by rw[hacc]; rfl
  have own1:Ĝ (νq 1) b0:=by rw[hν1]; rfl
  have hb02:G2 b0:=by
   rw[hG2];exact⟨.inl ⟨1,lv1,own1⟩,fun q=>absurd (@HR.inj _ gp _ _ _ Hq 0 1 b0 lv0 lv1 q own1) (by omega),Ù z2⟩
  have hgb:¬g.G b0:=fun q=>@HR.ghne _ g _ _ _ hH id b0 (by rw[hl]; rfl) (by rw[hν]; rfl) q
  have hlb:b0≠l:=fun q=>by rw[q,hl2] at z2; cases z2
  have hw3:W3.heap[b0]?=some (.cells c1 e1' (0,0)):=(h3o b0 hlb).trans z2;have hcr2:CR W2 (@Av _ gp νq hq) x.it.ct d c1.toList:=ď hdq (í.mono (fun _ _ hx=>@VR1.data _ gp _ _ _ _ _ hx.1) z3)
  have hcr3:CR W3 (@Av _ (g.re g.G g.D g.Q g.M) (ì νe id (.pointer (some ⟨b0,0,none⟩))) (ã Se.h id (.cells (flat x.it.ct d)))) x.it.ct d c1.toList:=by
   refine CR.kx ⟨ez s3.symm,fun b _ hn hx=>hn ?_,fun b o hb ho _=>by rw[hW3]; exact ŏ hl2 b o hb (.inl ho)⟩ hcr2;rcases hx with⟨j,hj,ho⟩|hx
   ·by_cases q:j=id
    ·rw[q,È] at ho; cases ho; exact .inl ⟨1,lv1,own1⟩
    ·rw[Ì _ q] at hj; rw[ø _ _ q] at ho;exact .inl ⟨0,lv0,(q3 b).2 ⟨j,hj,ho⟩⟩
   ·exact .inr hx
  have hrE:=Za (g:=g) (D:=g.D) (Q:=g.Q) (M:=g.M) hd0 hidl hGs hb02 hgb (fun q=>@HR.globL _ g _ _ _ hH b0 q hb0L) hw3 (@jS _ (g.re g.G g.D g.Q g.M) _ _ _ _ _ _ hcr3) H3;refine⟨_,_,@Sim.mk _ g _ _ _ _ hfr3 (by show Se.t.length<=_; rw[hSt]; exact htl) (fun i=>Y9 (g:=g) (D:=g.D) (Q:=g.Q) (M:=g.M) hd0 hidl hGs hb02 (V3 i)) (HR.er hrE),⟨oss.1,oss.2.1,oss.2.2,sz3,fun b hb hn=>⟨keep3 b hb hn,?_⟩,fun i hi=>?_⟩,?_,fun j hj hd2=>?_,hke⟩
  ·rintro⟨j,hj,ho⟩
   by_cases q:j=id
   ·rw[q,È] at ho; cases ho; exact hn hb0L
   ·have hj:(lkB (ã Se.h id (.cells (flat x.it.ct d))) j).live=true:=hj;rw[Ì _ q] at hj; rw[ø _ _ q] at ho;exact q6 b (by omega) hn ⟨j,hj,ho⟩
  ·show(lkB S.h i).next ν _ i (lkB (ã Se.h id (.cells (flat x.it.ct d))) i)
   by_cases q:i=id
   ·subst q;rw[Ø _ hidl,hl];exact⟨⟨_,rfl⟩,by rw[È,hν]⟩
   ·rw[Ì _ q];have z:=blk3 i hi q;have e:=ø νe (.pointer (some ⟨b0,0,none⟩)) q;revert z
    cases lkB S.h i<;>intro z
    ·trivial
    ·exact⟨z.1,e.trans z.2⟩
    ·obtain⟨g',fz,xs',y1,y2,y3⟩:=z;exact⟨g',fz,xs',y1,y2,fun y4=>⟨e.trans (y3 y4).1,(y3 y4).2⟩⟩
    ·exact⟨z.1,e.trans z.2⟩
    ·obtain⟨g',xs',y1,y2,y3⟩:=z;exact⟨g',xs',y1,y2,fun y4=>⟨e.trans (y3 y4).1,(y3 y4).2⟩⟩
    ·exact z
    ·exact⟨z.1,e.trans z.2⟩
    ·exact⟨z.1,e.trans z.2⟩
  ·show m<=(ã Se.h id (.cells (flat x.it.ct d))).length;rw[Ë]; omega
  ·obtain⟨hne,hde⟩:=dd3 j hj hd2;show lkB (ã Se.h id (.cells (flat x.it.ct d))) j=.dead;rw[Ì _ hne]; exact hde
 ·have hbt:Nat.blt id x.pin=false:=by
   cases hq:Nat.blt id x.pin with
   |false=>rfl
   |true=>exact absurd (dl hq) hip
  rw[hbt] at hke;have KGl:gu (g.re G2 [] none 0) νe Se.h W3 g.G W3:=gu.less hGs;refine⟨νe,Se,@Sim.mk _ g _ _ _ _ hfr3 (by rw[hSt]; exact htl) (fun i=>VR.step (g:=g.re G2 [] none 0) (D:=g.D) (Q:=g.Q) (M:=g.M) KGl (V3 i)) (HR.step (g:=g.re G2 [] none 0) (D:=g.D) (Q:=g.Q) (M:=g.M) KGl (fun b hb=>by have:=(hG b hb).2.2; omega) (fun b hb hg=>(hG b hg).2.1 ((q3 b).2 hb)) H3),⟨oss.1,oss.2.1,oss.2.2,sz3,fun b hb hn=>⟨keep3 b hb hn,q6 b (by omega) hn⟩,fun i hi=>blk3 i hi (by omega)⟩,by omega,fun j hj hd2=>(dd3 j hj hd2).2,hke⟩
end
end
end Go.Am
end

noncomputable section
namespace Go.Am
variable [Globs] [É]
section
variable {ρ:Type} {ν ν':Nat->Value} {h h':y5 Blk} {w w':World} {P:Program}
structure į (ρ:Type) where
 path:y5 Nat
 fid:Nat
 bid:Nat
 L:Æ
 bF:Val (tyL L.cs)->Val (tyL L.vs)->(Val (tyL L.vs)->x9 ρ)->((i:Nat)->Val (tyL (L.zs i))->x9 ρ)->x9 ρ
def eqL:y5 Nat->y5 Nat->Bool
 |[],[]=>true
 |a::l,b::m=>Nat.beq a b&&eqL l m
 |_,_=>false
def UI (S:St):y5 (į ρ)->y5 Nat->Nat->Nat->x9 (į ρ)
 |[],_,_,_=>none
 |x::l,path,fid,bid=>match Nat.beq x.bid bid&&(Nat.beq x.fid fid&&(eqL x.path path&&fitsS x.L S)) with
  |true=>some x
  |false=>UI S l path fid bid
def gK (tab:y5 (į ρ)) (path:y5 Nat) (fid bid m:Nat) (S:St) (K:Exit->St->x9 ρ):x9 ρ :=
 match UI S tab path fid bid with
 |some x=>PX x.L x.bF m S K
 |none=>none
structure JEnt where
 path:y5 Nat
 fid:Nat
 rid:Nat
 pin:Nat
 tpl:Tpl
 vs:y5 Ty
def Iu:y5 (Nat×Č)->Nat->x9 Č
 |[],_=>none
 |x::l,f=>match Nat.beq x.1 f with
  |true=>some x.2
  |false=>Iu l f
def xS:y5 (Nat×Nat)->Nat->x9 Nat
 |[],_=>none
 |x::l,s=>match Nat.beq x.1 s with
  |true=>some x.2
  |false=>xS l s
structure į.Ok (E:Env ρ) (x:į ρ):Prop where
 one:(((ŵ E.P x.fid).elim [] (Ñ 0)).filter fun y=>Nat.beq y.1 x.bid).length=1
 law:∀p v kn kx,goC E (ŭ E (10-x.path.length / 2)) x.fid x.path x.L.pin x.bid (sK (ŵ E.P x.fid) x.bid) (â x.L.head x.L.cs x.L.vs p v) (TU x.L kn kx)=x.bF p v (kn p) (fun i=>kx i p)
omit [É] in
def OO:∀{l m:y5 Nat},eqL l m=true->l=m
 |[],[],_=>rfl
 |a::l,b::m,h=>by
  simp only[eqL,bZ] at h;rw[cd h.1,OO h.2]
 |[],_::_,h=>by cases h
 |_::_,[],h=>by cases h
omit [É] in
def B9:∀{tab:y5 (į ρ)} {path:y5 Nat} {fid bid:Nat} {S:St} {x:į ρ},UI S tab path fid bid=some x->x∈tab/\x.path=path/\x.fid=fid/\x.bid=bid
 |[],_,_,_,_,_,h=>by cases h
 |y::tab,path,fid,bid,S,x,h=>by
  unfold UI at h
  split at h
  ·rename_i hb;simp only[bZ] at hb;cases h;exact⟨by simp,OO hb.2.2.1,cd hb.2.1,cd hb.1⟩
  ·obtain⟨h1,h2⟩:=B9 h;exact⟨by simp[h1],h2⟩
omit [É] in
def JX:∀{tab:y5 (Nat×Č)} {f:Nat} {p:Č},Iu tab f=some p->(f,p)∈tab
 |[],_,_,h=>by cases h
 |y::tab,f,p,h=>by
  unfold Iu at h
  split at h
  ·rename_i hb;cases h;rw[<-cd hb]; simp
  ·exact eE _ (JX h)
omit [É] in
def ķ:∀(c:Code) (b0:Nat) {bid:Nat} {b:LI},(bid,b)∈Ñ b0 c->∀y∈b.loops bid,y∈Ñ b0 c
 |.seq c d,b0,bid,b,h,y,e=>by
  simp only[Ñ,b8] at h ⊢;exact h.imp (fun h=>ķ c b0 h y e) (fun h=>ķ d b0 h y e)
 |.cond _ c d,b0,bid,b,h,y,e=>by
  simp only[Ñ,b8] at h ⊢;exact h.imp (fun h=>ķ c b0 h y e) (fun h=>ķ d b0 h y e)
 |.block id c,b0,bid,b,h,y,e=>by
  simp only[Ñ] at h ⊢;exact ķ c id h y e
 |.loop c,b0,bid,b,h,y,e=>by
  simp only[Ñ,b9,Prod.mk.injEq] at h ⊢;rcases h with⟨rfl,rfl⟩|h
  ·exact .inr e
  ·exact .inr (ķ c b0 h y e)
 |.skip,_,_,_,h,_,_=>by cases h
 |.region ..,_,_,_,h,_,_=>by cases h
 |.exit _,_,_,_,h,_,_=>by cases h
 |.ret,_,_,_,h,_,_=>by cases h
 |.label _,_,_,_,h,_,_=>by cases h
 |.goto _,_,_,_,h,_,_=>by cases h
 |.rangeFunc g ps c d,b0,bid,b,h,y,e=>by
  simp only[Ñ,b9,b8,Prod.mk.injEq] at h ⊢;rcases h with⟨rfl,rfl⟩|h|h
  ·exact .inr (b8.1 e)
  ·exact .inr (.inl (ķ c b0 h y e))
  ·exact .inr (.inr (ķ d b0 h y e))
 |.scope c,b0,bid,b,h,y,e=>by
  simp only[Ñ] at h ⊢;exact ķ c b0 h y e
 |.refuse _,_,_,_,h,_,_=>by cases h
def LI.sz:LI->Nat
 |.lp b=>SizeOf.sizeOf b
 |.rf _ _ a b=>SizeOf.sizeOf a+SizeOf.sizeOf b
omit [É] in
def Ē:∀(c:Code) (b0:Nat) {bid:Nat} {b:LI},(bid,b)∈Ñ b0 c->b.sz<SizeOf.sizeOf c
 |.seq c d,b0,bid,b,h=>by
  simp only[Ñ,b8] at h;rcases h with h|h
  ·have:=Ē c b0 h; simp; omega
  ·have:=Ē d b0 h; simp; omega
 |.cond _ c d,b0,bid,b,h=>by
  simp only[Ñ,b8] at h;rcases h with h|h
  ·have:=Ē c b0 h; simp; omega
  ·have:=Ē d b0 h; simp; omega
 |.block id c,b0,bid,b,h=>by
  have:=Ē c id h; simp; omega
 |.loop c,b0,bid,b,h=>by
  simp only[Ñ,b9,Prod.mk.injEq] at h;rcases h with⟨rfl,rfl⟩|h
  ·simp[LI.sz]
  ·have:=Ē c b0 h; simp; omega
 |.skip,_,_,_,h=>by cases h
 |.region ..,_,_,_,h=>by cases h
 |.exit _,_,_,_,h=>by cases h
 |.ret,_,_,_,h=>by cases h
 |.label _,_,_,_,h=>by cases h
 |.goto _,_,_,_,h=>by cases h
 |.rangeFunc g ps c d,b0,bid,b,h=>by
  simp only[Ñ,b9,b8,Prod.mk.injEq] at h;rcases h with⟨rfl,rfl⟩|h|h
  ·simp[LI.sz]; omega
  ·have:=Ē c b0 h; simp; omega
  ·have:=Ē d b0 h; simp; omega
 |.scope c,b0,bid,b,h=>by
  have:=Ē c b0 h; simp; omega
 |.refuse _,_,_,_,h=>by cases h
def TK (E:Env ρ) (n:Nat):Prop:=∀[É],Ι E->gN E (22-2*n) (ŭ E n)
def uQ (E:Env ρ):Prop:=∀n,n<=10->TK E n->∀[É],Ι E->∀(path:y5 Nat) (f:Nat) (fn:Func) (c:Code),path.length+2=22-2*n->E.P.funcs[f]?=some fn->fn.body=some c->∀x∈Ñ 0 c,iy E path f x.1 x.2
omit [É] in
def qt {c:Code} {bid:Nat} {b:LI} (i:((Ñ 0 c).filter fun y=>Nat.beq y.1 bid).length=1) (m:(bid,b)∈Ñ 0 c):w7 (some c) bid=b:=by
 have d:(bid,b)∈(Ñ 0 c).filter fun y=>Nat.beq y.1 bid:=List.mem_filter.2 ⟨m,by simp⟩;obtain⟨z,l⟩:=List.length_eq_one_iff.1 i;rw[l,List.mem_singleton] at d;unfold w7;simp only
 cases e:(Ñ 0 c).find? fun y=>y.1==bid with
 |none =>
  have:=eD.1 e _ m;simp at this
 |some y =>
  have k:=List.mem_of_find?_eq_some e;have j:=List.find?_some e;have:y∈(Ñ 0 c).filter fun y=>Nat.beq y.1 bid:=du.2 ⟨k,by simpa using j⟩;rw[l,ce] at this;rw[this,<-d]
def X1:y5 (PA ρ)->y5 Nat->Nat->Nat->x9 (PA ρ)
 |[],_,_,_=>none
 |x::l,path,fid,bid=>match Nat.beq x.bid bid&&(Nat.beq x.fid fid&&eqL x.path path) with
  |true=>some x
  |false=>X1 l path fid bid
def ż (tab:y5 (PA ρ)) (path:y5 Nat) (fid bid m:Nat) (g:AV) (S:St) (K:Exit->St->x9 ρ):x9 ρ :=
 match X1 tab path fid bid with
 |some x=>rngK x m g S K
 |none=>none
omit [É] in
def JW:∀{tab:y5 (PA ρ)} {path:y5 Nat} {fid bid:Nat} {x:PA ρ},X1 tab path fid bid=some x->x∈tab/\x.path=path/\x.fid=fid/\x.bid=bid
 |[],_,_,_,_,h=>by cases h
 |y::tab,path,fid,bid,x,h=>by
  unfold X1 at h
  split at h
  ·rename_i hb;simp only[bZ] at hb;cases h;exact⟨by simp,OO hb.2.2,cd hb.2.1,cd hb.1⟩
  ·obtain⟨h1,h2⟩:=JW h;exact⟨by simp[h1],h2⟩
def TZ:LI->Bool
 |.rf _ ps _ _=>match ps.toList with
  |[_]=>true
  |_=>false
 |_=>true
omit [É] in
def Xh {E:Env ρ} (hmix:E.P.follows .mixedOrders=true) {tab:y5 (į ρ)} (Y:E.loops=gK tab) (U:∀x∈tab,x.Ok E) {rtab:y5 (PA ρ)} (hR:E.ranges=ż rtab) (B:∀x∈rtab,x.Ok E) (R:∀x∈rtab,TZ (w7 (ŵ E.P x.fid) x.bid)=true):uQ E:=by
 intro n hn k g0 l path f fn c hp hf hc
 have s:ŵ E.P f=some c:=by simp only[ŵ,hf,hc]
 have G:∀(N:Nat) (x:Nat×LI),x.2.sz<N->x∈Ñ 0 c->∀[É],Ι E->iy E path f x.1 x.2:=by
  intro N
  induction N with
  |zero=>intro x h; omega
  |succ N ih =>
   intro⟨bid,b⟩ hN u
   have F:∀y∈b.loops bid,y.2.sz<N:=fun y l=>by
    cases b with
    |lp b=>have:=Ē b bid (bid:=y.1) (b:=y.2) l; simp only[LI.sz] at hN; omega
    |rf gop ps A Bd =>
     simp only[LI.sz] at hN;rcases b8.1 l with l|l
     ·have:=Ē A bid (bid:=y.1) (b:=y.2) l; omega
     ·have:=Ē Bd bid (bid:=y.1) (b:=y.2) l; omega
   have C:∀[É],Ι E->∀y∈b.loops bid,iy E path f y.1 y.2:=fun I y l=>ih y (F y l) (ķ c 0 u y l) I;intro g1 o
   cases b with
   |lp b =>
    intro m S K r ν a w e H V;rw[Y] at e;unfold gK at e
    cases j:UI S tab path f bid with
    |none =>
     rw[j] at e;cases e
    |some x =>
     obtain⟨h1,h2,h3,Z⟩:=B9 j;obtain⟨i,d⟩:=U x h1;subst h3 Z;rw[s] at i d;simp only[Option.elim] at i
     have hb:sK (some c) x.bid=b:=by unfold sK; rw[qt i u]
     rw[hb] at d
     have hd:10-x.path.length / 2=n:=by rw[h2]; omega
     rw[hd,h2] at d;rw[<-h2] at d;rw[j] at e;exact SF (path:=x.path) jI (k o) (θ hmix _ _ (k o)) (by rw[h2]; omega) (by rw[h2]; exact C o) x.L x.bF (fun p v kn kx=>d p v kn kx) e H V
   |rf gop ps A Bd =>
    intro m S K r ν a w e H V;rw[hR] at e;unfold ż at e
    cases j:X1 rtab path f bid with
    |none =>
     rw[j] at e;cases e
    |some x =>
     obtain⟨h1,h2,h3,Z⟩:=JW j;obtain⟨i,W,J,O,d⟩:=B x h1;have q:=R x h1;subst h3 Z;rw[s] at i d q;simp only[Option.elim] at i;rw[qt i u] at d q
     have hd:10-x.path.length / 2=n:=by rw[h2]; omega
     rw[hd] at d;rw[j] at e
     have T:∃p0,ps.toList=[p0]:=by
      simp only[TZ] at q
      split at q
      ·exact⟨_,‹_›⟩
      ·cases q
     exact Wi (x:=x) k (fun Y=>θ hmix _ _ Y) (by rw[h2]; omega) o (fun l z hz=>by rw[h2]; exact C l z hz) W J O d T (k o).plain e H V
 exact fun x u=>G _ x (f5 _) u l
omit [É] in
def Ay {E:Env ρ} (hmix:E.P.follows .mixedOrders=true) {tab:y5 (į ρ)} (d:E.loops=gK tab) (b:∀x∈tab,x.Ok E) (c:E.ranges=ż []):uQ E :=
 Xh hmix d b c (fun _ h=>by cases h) (fun _ h=>by cases h)
structure abD where
 path:y5 Nat
 fid:Nat
 bid:Nat
 n:Nat
def aaN:y5 abD->y5 Nat->Nat->Nat->x9 abD
 |[],_,_,_=>none
 |x::l,path,fid,bid=>match Nat.beq x.bid bid&&(Nat.beq x.fid fid&&eqL x.path path) with
  |true=>some x
  |false=>aaN l path fid bid
def SE (b:Env ρ) (us:y5 abD) (path:y5 Nat) (fid bid m:Nat) (S:St) (K:Exit->St->x9 ρ):x9 ρ :=
 match aaN us path fid bid with
 |some u=>Bk (fun S K=>goC b (ŭ b (10-u.path.length / 2)) u.fid u.path m u.bid (sK (ŵ b.P u.fid) u.bid) S K) u.n S K
 |none=>b.loops path fid bid m S K
omit [É] in
def JV:∀{tab:y5 abD} {path:y5 Nat} {fid bid:Nat} {x:abD},aaN tab path fid bid=some x->x∈tab/\x.path=path/\x.fid=fid/\x.bid=bid
 |[],_,_,_,_,h=>by cases h
 |y::tab,path,fid,bid,x,h=>by
  unfold aaN at h
  split at h
  ·rename_i hb;simp only[bZ] at hb;cases h;exact⟨by simp,OO hb.2.2,cd hb.2.1,cd hb.1⟩
  ·obtain⟨h1,h2⟩:=JV h;exact⟨by simp[h1],h2⟩
def tc {E:Env ρ} {call:y5 Nat->Bool->Nat->y5 AV->y5 Blk->(AV->y5 Blk->x9 ρ)->x9 ρ} {N:Nat} (G:gN E N call) (I:kd E N call) {fid bid m:Nat} {path:y5 Nat} (s:path.length+2=N) {b:Code}
 (A:∀x∈Ñ bid b,iy E path fid x.1 x.2) {K:Exit->St->x9 ρ} {r:ρ} {q:y5 Blk} {o:Nat->Value} {u:World}:∀(n:Nat) (S:St) (ν:Nat->Value) (a:Act) (w:World),Bk (fun S K=>goC E call fid path m bid b S K) n S K=some r->Sim ν S a w->m<=S.h.length->Ev m o q u ν S.h w->Dd m q S.h ->
  Code.roundsIn fen 0 E.P b (Pw m o q u K r) n a w
 |0,S,ν,a,w,e,_,_,_,_=>by cases e
 |n+1,S,ν,a,w,e,H,J,ev,dd=>by
  rw[roundsIn_succ];simp only[Bk] at e;refine wpIn_mono (iP G I s b bid S _ ν a w A e H J) fun x B z ha=>?_;obtain⟨c,j,y,C,k,F,v⟩:=ha;have d:=ev.trans C (bX m);have i:=dd.trans F (bX m)
  cases x with
  |normal=>exact tc G I s A n j c B z v y k d i
  |exit id=>exact⟨c,j,y,d,k,i,v⟩
  |ret=>exact⟨c,j,y,d,k,i,v⟩
  |goto l=>exact⟨c,j,y,d,k,i,v⟩
  |panic ch=>exact⟨c,j,y,d,k,i,v⟩
  |outgrown=>exact⟨c,j,y,d,k,i,v⟩
omit [É] in
def Xi {E i:Env ρ} (l:∀[É],Ι i->uR i) (B:i.P=E.P) (C:i.yld=none) (G:E.ranges=ż []) (hmix:i.P.follows .mixedOrders=true) (v:uQ i) {us:y5 abD} (J:E.loops=SE i us)
 (s:∀u∈us,(((ŵ E.P u.fid).elim [] (Ñ 0)).filter fun y=>Nat.beq y.1 u.bid).length=1):uQ E:=by
 intro n I _ g0 _ path f fn c N R T;have j:=jk l (fun L call J=>θ hmix L call J) v;have q:Ι i:=ľ C;have k:=j n I q;have o:kd i (22-2*n) (ŭ i n):=θ hmix _ _ k;have z:=v n I (j n I) q path f fn c N (B▸R) T
 have d:ŵ E.P f=some c:=by simp only[ŵ,R,T]
 intro⟨bid,b⟩ F
 cases b with
 |rf gop ps A Bd =>
  intro m S K r ν a w e;rw[G] at e;cases e
 |lp b =>
 intro m S K r ν a w e H O;rw[J] at e;unfold SE at e
 split at e
 ·rename_i u Z;obtain⟨h1,h2,W,V⟩:=JV Z
  have hd:10-u.path.length / 2=n:=by rw[h2]; omega
  have U:=s u h1;rw[W,V,d] at U
  have hb:sK (some c) bid=b:=by unfold sK; rw[qt U F]
  rw[hd,h2,W,V,B,d,hb] at e;have:=tc k o N (fun y Y=>z y (ķ c 0 F y Y)) u.n S ν a w e H O (Ev.refl _ _ _ _) (Dd.refl _ _);rw[B] at this;exact wpIn_loop_rounds u.n this
 ·have:=z (bid,.lp b) F m S K r ν a w e H O
  rwa [B] at this
def KH (H:HR ν h w) {c:AV} {u:Value} (d:VR1 ν h w c u):VRs w É.G (ñ h c) u:=tq H (fun b hb=>.inr hb) d fun id b _ e hb=>H.ghne id b e hb
def Ww (H:HR ν h w) {id:Nat} {cs:y5 AV} (e:lkB h id=.cells cs):(∀b,Ĝ (ν id) b->¬É.G b)/\∀c∈cs,∀u,VR1 ν h w c u->VRs w É.G (ñ h c) u :=
 ⟨fun b hb=>H.ghne id b (by rw[e]; rfl) hb,fun _ _ _ d=>KH H d⟩
def í.up2:∀{as:y5 AV} {vs:y5 Value},í (Go.Am.VR2 ν h w) as vs->í (Go.Am.VR ν h w) as vs
 |[],[],_=>trivial
 |_::_,_::_,h=>⟨h.1.up,í.up2 h.2⟩
 |[],_::_,h=>h.elim
 |_::_,[],h=>h.elim
def Ku (H:HR ν h w):∀(l:y5 Ty) {x:Val (tyL l)} {v:AV} {u:Value},VR ν h w v u->T4 l h v=some x->RR w É.G l x u
 |[],_,_,_,_,e=>by cases e
 |[t],x,v,u,d,e=>L9 H d (fun _ _ _ i=>KH H i) (fun _ _ _ c=>Ww H c) (fun id _ _ c b hb=>H.ghne id b c hb) e
 |t::u'::l,x,v,u,d,e=>by
  cases v with
  |tup as =>
   obtain⟨us,rfl,h2⟩:=d;exact⟨us,rfl,Hm H (u'::l) t x as us.toList h2.up2 (fun _ _ _ _ _ i=>KH H i) (fun _ _ _ _ _ c=>Ww H c) (fun _ _ id _ _ c b hb=>H.ghne id b c hb) e⟩
  |_=>cases e
def AT.mono {G G':Nat->Prop} (c:∀b,G' b->G b):∀{l:y5 Ty} {t:Ty} {x:Val (tys t l)} {vs:y5 Value},AT w G l t x vs->AT w G' l t x vs
 |[],t,x,vs,⟨v,h1,h2⟩=>⟨v,h1,h2.mono c⟩
 |u::l,t,x,vs,⟨v,vs',h1,h2,d⟩=>⟨v,vs',h1,h2.mono c,AT.mono c d⟩
def AL.mono {G G':Nat->Prop} (c:∀b,G' b->G b):∀{l:y5 Ty} {x:Val (tyL l)} {vs:y5 Value},AL w G l x vs->AL w G' l x vs
 |[],_,_,h=>h
 |_::_,_,_,h=>AT.mono c h
def AL.VR:∀{l:y5 Ty} {x:Val (tyL l)} {vs:y5 Value},AL w (Av ν h) l x vs->í (VR ν h w) (Ee l x) vs
 |[],_,_,h=>by cases h; trivial
 |_::_,_,_,h=>AT.VR h
end
omit [É] in
def DS {f:Nat} {p:Č} (E:Env (Val (tyL p.rs))) (d:∀[É],uR E) (hmix:E.P.follows .mixedOrders=true) (hl:uQ E) (law:EF p E f):Þ E.P f p:=by
 intro G x y C w vals B l q
 letI g:É:=Gh G
 have o:=law x;rw[C] at o;unfold ZK at o;have hy:∀[É],Ι E:=uR.yld d;have hall:∀n,n<=10->TK E n:=jk (fun _=>d) (fun L call F=>θ hmix L call F) hl;have j:∀M,@gN _ (g.re g.G [] none M) _ E 2 (ŭ E 10):=fun M=>@hall 10 (Nat.le_refl _) (g.re g.G [] none M) (@hy _);have H:HR (fun _=>undef) [] w:=⟨fun _=>trivial,fun _ _ _ h=>(by cases h),B,fun _ _ h=>(by cases h),l,fun _ _ ⟨_,h,_⟩=>(by cases h)⟩;have m:∀b,Av (fun _=>undef) [] b->G b:=fun b hb=>hb.elim (fun⟨_,h,_⟩=>by cases h) id;have i:í (VR (fun _=>undef) [] w) (Ee p.ts x) vals:=AL.VR (q.mono m);obtain⟨h1,h2⟩:=GP j (fun M=>@θ _ (g.re g.G [] none M) _ _ hmix _ _ (j M)) (path:=[]) rfl (fun M fn c z A=>@hl 10 (Nat.le_refl _) (hall 10 (Nat.le_refl _)) (g.re g.G [] none M) (@hy _) [] f fn c rfl z A) o H (Nat.zero_le _) i;refine⟨h1,h2.mono fun e w' s=>?_⟩;obtain⟨ν',h',v,u,rfl,K,J,k,O,N,I⟩:=s;refine⟨u,rfl,Ku J _ K I,fun b hb=>(k.keep b hb fun⟨_,h,_⟩=>by cases h).1,k.size,k.os,k.tape,k.output⟩
omit [É] in
def uX {f:Nat} {p:Č} (E:Env (Val (tyL p.rs))) (b:∀[É],uR E) (hmix:E.P.follows .mixedOrders=true) {tab:y5 (į (Val (tyL p.rs)))} (e:E.loops=gK tab) (c:∀x∈tab,x.Ok E) (law:EF p E f) (d:E.ranges=ż []:=by rfl):Þ E.P f p :=
 DS E b hmix (Ay hmix e c d) law
omit [É] in
def Wn {f:Nat} {p:Č} (E c:Env (Val (tyL p.rs))) (e:∀[É],uR E) (b:∀[É],uR c) (l:c.P=E.P) (hmix:E.P.follows .mixedOrders=true) {tab:y5 (į (Val (tyL p.rs)))} (h0:c.loops=gK tab) (j:∀x∈tab,x.Ok c) {us:y5 abD} (n:E.loops=SE c us)
 (d:∀u∈us,(((ŵ E.P u.fid).elim [] (Ñ 0)).filter fun y=>Nat.beq y.1 u.bid).length=1) (law:EF p E f) (k:c.ranges=ż []:=by rfl) (m:E.ranges=ż []:=by rfl) (i:c.yld=none:=by rfl):Þ E.P f p :=
 DS E e hmix (Xi (fun _=>b) l i m (l▸hmix) (Ay (l▸hmix) h0 j k) n d) law
omit [É] in
def jm {p:Č} {E:Env (Val (tyL p.rs))} {f:Nat} (h:∀x:Val (tyL p.ts),ZK E f (Ee p.ts x) (fun h v=>Ã (T4 p.rs h v) some)=p.F x):EF p E f:=fun x=>by
 rw[<-h x];congr 1;funext h v;unfold Ã
 cases T4 p.rs h v<;>rfl
omit [É] in
def Ä {α:Type} {Q:α->Prop}:∀x∈([]:y5 α),Q x:=fun _ h=>by cases h
omit [É] in
def Á {α:Type} {Q:α->Prop} {a:α} {l:y5 α} (h:Q a) (c:∀x∈l,Q x):∀x∈a::l,Q x:=fun x b=>by
 rcases b9.1 b with rfl|b
 ·exact h
 ·exact c x b
@[reducible] def Gk (G:Nat->Prop) (D:y5 Deferred) (Q:x9 Nat):É:=⟨G,D,Q,0,0,0,.unit,fun _ _ _ _=>False,fun _ _ _ _ _ _ h=>h.elim⟩
end Go.Am
end

noncomputable section
namespace Go.Am
open Go.ChangeShapes Go.WideShapes Go.ChangeAt Go.RowKit
abbrev ado:Nat->Prop:=fun _=>False
def Rng:(t:Ty)->Val t->Prop
 |.int .i64,n=>-9223372036854775808<=(n:Int)/\(n:Int)<=9223372036854775807
 |.pair a b,x=>Rng a (x:Val a×Val b).1/\Rng b (x:Val a×Val b).2
 |.slice t,l=>∀x∈(l:y5 (Val t)),Rng t x
 |_,_=>True
mutual
def Zx (P:Program):Nat->Ty->TypeId->Bool
 |0,_,_=>false
 |n+1,τ,t =>
  match P.underlying t with
  |some .bool=>match τ with
   |.bool=>true
   |_=>false
  |some (.int k)=>match τ with
   |.int b=>k==b
   |_=>false
  |some .string=>match τ with
   |.str=>true
   |_=>false
  |some (.slice e)=>match τ with
   |.slice u=>Zx P n u e&&(Nat.beq (P.cellsOf e) u.size&&Nat.ble 1 u.size)
   |_=>false
  |some (.struct fs)=>Nat.beq (P.cellsOf t) τ.size&&(τ.isAgg&&fieldsAre P n τ 0 fs.toList)
  |_=>false
def fieldsAre (P:Program):Nat->Ty->Nat->y5 Field->Bool
 |0,_,_,_=>false
 |n+1,τ,off,[f]=>Nat.beq f.offset off&&(Nat.beq (P.cellsOf f.type) τ.size&&Zx P n τ f.type)
 |n+1,.pair a b,off,f::g::fs=>Nat.beq f.offset off&&(Nat.beq (P.cellsOf f.type) a.size&&(Zx P n a f.type&&fieldsAre P n b (off+a.size) (g::fs)))
 |_,_,_,_=>false
end
def KP {α β:Type} {f:α->x9 β}:∀{l:y5 α} {ys:y5 β},l.mapM f=some ys->∀a∈l,∃y,f a=some y
 |[],ys,_,a,ha=>by cases ha
 |b::l,ys,h,a,ha=>by
  rw[List.mapM_cons] at h
  cases hb:f b with
  |none=>rw[hb] at h; cases h
  |some y =>
   rw[hb] at h
   cases c:l.mapM f with
   |none=>simp[c] at h
   |some zs =>
    rcases b9.1 ha with rfl|ha
    ·exact⟨y,hb⟩
    ·exact KP c a ha
def G0 {α:Type} {Q:Nat->α->Prop}:∀n:Nat,(∀i,i<n->∃x,Q i x)->∃xs:y5 α,xs.length=n/\∀i x,xs[i]?=some x->Q i x
 |0,_=>⟨[],rfl,fun i x h=>by simp at h⟩
 |n+1,h=>by
  obtain⟨xs,h1,h2⟩:=G0 n fun i hi=>h i (by omega);obtain⟨x,c⟩:=h n (by omega);refine⟨xs++[x],by simp[h1],fun i y b=>?_⟩;rcases cW i n with hi|hi
  ·rw[eh (by omega)] at b; exact h2 i y b
  ·rw[dZ (by omega),h1] at b
   have:i=n:=by
    rcases cW 0 (i-n) with h0|h0
    ·rw[List.getElem?_eq_none (by simp; omega)] at b; cases b
    ·omega
   subst this;simp at b;rw[<-b]; exact c
section
variable {H:Type} {enc:TypeId×Value->H} {P:Program} {w:World} {sp:Nat->Bool} {held:Bool}
def abg {base:Nat} {a:Addr} {n:Nat} {cs:y5 Value} (h:w.cells? base a n=some cs) (c:a.spot=none):ę w a.block a.off cs:=by
 obtain⟨_,k,i⟩:=World.cells?_some h;intro j v d;have e:j<cs.length:=(ca.1 d).1;have:=i j (by omega);rw[d] at this;rw[<-this];congr 1;obtain⟨b,o,s⟩:=a;simp only at c;subst c;exact(add_plain b o j).symm
def TG (enc:TypeId×Value->H) (P:Program) (w:World) (sp:Nat->Bool) (held:Bool) (n:Nat):Prop :=
 ∀(τ:Ty) (t:TypeId) (b:Nat) (cs:y5 Value) (d:DataW H) (ps:y5 MemPlace),Zx P n τ t=true->DataW.trod enc P w 0 sp held b t cs=some (d,ps)->∃x:Val τ,CR w ado τ x cs/\Rng τ x
def Ej (enc:TypeId×Value->H) (P:Program) (w:World) (sp:Nat->Bool) (held:Bool) (n:Nat):Prop :=
 ∀(τ:Ty) (off:Nat) (fs:y5 Field) (b:Nat) (cs:y5 Value),fieldsAre P n τ off fs=true->(∀f∈fs,∃y,DataW.trod enc P w 0 sp held b f.type ((cs.drop f.offset).take (P.cellsOf f.type))=some y)->cs.length=off+τ.size->∃x:Val τ,CR w ado τ x (cs.drop off)/\Rng τ x
set_option maxHeartbeats 1000000 in
def VF {n:Nat} (A:TG enc P w sp held n) (B:Ej enc P w sp held n):TG enc P w sp held (n+1):=by
 intro τ t j cs d ps h e
 cases j with
 |zero=>simp[DataW.trod] at e
 |succ j =>
  unfold Zx at h;unfold DataW.trod at e
  split at h
  ·-- bool
   rename_i q;rw[q] at e
   cases τ<;>try (cases h; done)
   rcases cs with _|⟨c,_|⟨U,cs⟩⟩<;>try first|(cases e; done)|(simp at e; done)
   cases c<;>try (cases e; done)
   rename_i b;exact⟨(show Val .bool from b),rfl,trivial⟩
  ·-- int
   rename_i k q;rw[q] at e
   cases τ<;>try (cases h; done)
   rename_i k'
   have hk:k=k':=by simpa using h
   subst hk
   rcases cs with _|⟨c,_|⟨U,cs⟩⟩<;>try first|(cases e; done)|(simp at e; done)
   cases c<;>try (cases e; done)
   rename_i k2 m;simp only at e
   split at e<;>try (cases e; done)
   rename_i L;obtain⟨rfl,E⟩:=L;refine⟨(show Val (.int k2) from m),rfl,?_⟩
   cases k2<;>try trivial
   simp only[Lit.wf,bZ,decide_eq_true_eq] at E;exact E
  ·-- string
   rename_i q;rw[q] at e
   cases τ<;>try (cases h; done)
   rcases cs with _|⟨c,_|⟨U,cs⟩⟩<;>try first|(cases e; done)|(simp at e; done)
   cases c<;>try (cases e; done)
   rename_i s;exact⟨(show Val .str from s),rfl,trivial⟩
  ·-- slice
   rename_i v q;rw[q] at e
   cases τ<;>try (cases h; done)
   rename_i u;simp only[bZ] at h;obtain⟨h1,h2,h3⟩:=h;have F:P.cellsOf v=u.size:=cd h2;have W:1<=u.size:=dl h3
   rcases cs with _|⟨c,_|⟨U,cs⟩⟩<;>try first|(cases e; done)|(simp at e; done)
   cases c<;>try (cases e; done)
   rename_i base len cap
   cases base with
   |none =>
    cases len<;>cases cap<;>try (cases e; done)
    exact⟨(show Val (.slice u) from[]),⟨none,0,rfl,bX _,.inl rfl⟩,fun x K=>by cases K⟩
   |some a =>
    simp only at e
    split at e<;>try (cases e; done)
    rename_i hb
    cases G:(List.range len).mapM (fun i=>(w.cells? 0 (a.add (i*P.cellsOf v)) (P.cellsOf v)).bind (DataW.trod enc P w 0 sp held j v)) with
    |none=>rw[G] at e; cases e
    |some adz =>
     clear e
     have z:∀i,i<len->∃x:Val u,∃us,w.cells? 0 (a.add (i*P.cellsOf v)) (P.cellsOf v)=some us/\CR w ado u x us/\Rng u x:=by
      intro i hi;obtain⟨y,J⟩:=KP G i (List.mem_range.2 hi)
      cases L:w.cells? 0 (a.add (i*P.cellsOf v)) (P.cellsOf v) with
      |none=>rw[L] at J; cases J
      |some us =>
       rw[L] at J;obtain⟨d',N⟩:=y;obtain⟨x,g1,g2⟩:=A u v j us d' N h1 J;exact⟨x,us,rfl,g1,g2⟩
     obtain⟨xs,T,K⟩:=G0 len z;refine⟨(show Val (.slice u) from xs),⟨some a,cap,by rw[T],by rw[T]; exact hb.2.1,?_⟩,fun x O=>?_⟩
     ·rcases fA len with h0|h0
      ·left; exact cB.1 (by rw[T,h0])
      ·right;obtain⟨x0,C,c0,_,_⟩:=z 0 h0;have I:=World.cells?_block c0 (by omega);obtain⟨_,l0,g0⟩:=World.cells?_some c0
       have l:a.spot=none:=by
        have Z:=g0 0 (by omega);obtain⟨v0,S⟩:∃v0,C[0]?=some v0:=⟨C[0],bY (by omega)⟩;rw[S] at Z;simpa[Addr.add] using World.cell?_spot Z
       obtain⟨b,o,s⟩:=a;simp only at l;subst l;refine⟨b,o,rfl,id,by simpa[Addr.add] using I,fun i x R=>?_⟩;obtain⟨us,V,q2,_⟩:=K i x R;refine⟨us,q2,?_⟩;rw[add_plain] at V;have:=abg V rfl;rw[F] at this;exact this
     ·obtain⟨i,hi,rfl⟩:=cm.1 O;obtain⟨us,_,_,g⟩:=K i _ (bY hi);exact g
  ·-- struct
   rename_i fs q;rw[q] at e;simp only[bZ] at h;obtain⟨h1,_,h2⟩:=h;have F:P.cellsOf t=τ.size:=cd h1;simp only at e
   split at e<;>try (cases e; done)
   rename_i Y
   cases G:fs.toList.mapM (fun f=>DataW.trod enc P w 0 sp held j f.type ((cs.drop f.offset).take (P.cellsOf f.type))) with
   |none=>rw[G] at e; cases e
   |some xs =>
    have:=B τ 0 fs.toList j cs h2 (KP G) (by omega);simpa using this
  ·cases h
def QI {n:Nat} (A:TG enc P w sp held n) (B:Ej enc P w sp held n):Ej enc P w sp held (n+1):=by
 intro τ off fs c cs h k i;rcases fs with _|⟨f,_|⟨g,fs⟩⟩
 ·simp[fieldsAre] at h
 ·unfold fieldsAre at h;simp only[Bool.and_eq_true] at h;obtain⟨h1,h2,l⟩:=h;obtain⟨⟨d,ps⟩,e⟩:=k f (by simp);rw[Nat.eq_of_beq_eq_true h1,Nat.eq_of_beq_eq_true h2,List.take_of_length_le (by rw[List.length_drop]; omega)] at e;exact A τ f.type c _ d ps l e
 ·cases τ<;>try (simp[fieldsAre] at h; done)
  rename_i a b;unfold fieldsAre at h;simp only[Bool.and_eq_true] at h;obtain⟨h1,h2,l,u⟩:=h;obtain⟨⟨d,ps⟩,e⟩:=k f (by simp);rw[Nat.eq_of_beq_eq_true h1,Nat.eq_of_beq_eq_true h2] at e;obtain⟨x,s,q⟩:=A a f.type c _ d ps l e;simp only[Ty.size] at i;obtain⟨y,o,m⟩:=B b (off+a.size) (g::fs) c cs u (fun v j=>k v (by simp[j])) (by omega);refine⟨(show Val (.pair a b) from(x,y)),⟨_,_,?_,s,o⟩,q,m⟩;rw[<-List.drop_drop,List.take_append_drop]
def tg:∀n,TG enc P w sp held n/\Ej enc P w sp held n
 |0=>⟨fun τ t b cs d ps h _=>by simp[Zx] at h,fun τ off fs b cs h _ _=>by simp[fieldsAre] at h⟩
 |n+1=>⟨VF (tg n).1 (tg n).2,QI (tg n).1 (tg n).2⟩
def Rs {n:Nat} {τ:Ty} {t:TypeId} {v:Value} {d:DataW H} {ps:y5 MemPlace} {r:Reach} {base:Nat} (e:Zx P n τ t=true) (h:DataW.Trod enc P w 0 sp held t v d ps) (c:Value.okWide P w r base t v):∃x:Val τ,Ν w ado τ x v/\Rng τ x:=by
 obtain⟨j,l⟩:=h;obtain⟨x,h1,h2⟩:=(tg n).1 τ t j _ d ps e l;refine⟨x,⟨_,h1,?_⟩,h2⟩
 cases n with
 |zero=>simp[Zx] at e
 |succ n =>
  unfold Zx at e;unfold Value.okWide at c
  split at e
  ·rename_i b;rw[b] at c
   cases τ<;>try (cases e; done)
   simp only[Cell.okWide,b] at c
   cases v<;>simp_all[Cell.ok,Value.cells,s9,Ty.isAgg]
  ·rename_i k b;rw[b] at c
   cases τ<;>try (cases e; done)
   simp only[Cell.okWide,b] at c
   cases v<;>simp_all[Cell.ok,Value.cells,s9,Ty.isAgg]
  ·rename_i b;rw[b] at c
   cases τ<;>try (cases e; done)
   simp only[Cell.okWide,b] at c
   cases v<;>simp_all[Cell.ok,Value.cells,s9,Ty.isAgg]
  ·rename_i m b;rw[b] at c
   cases τ<;>try (cases e; done)
   simp only[Cell.okWide,b] at c
   cases v<;>simp_all[Cell.ok,Value.cells,s9,Ty.isAgg]
  ·rename_i fs b;rw[b] at c;obtain⟨cs,rfl,_,_⟩:=c;simp only[bZ] at e;have i:τ.isAgg=true:=e.2.1;simp[s9,i,Value.cells]
  ·cases e
def vX (P:Program):y5 Ty->y5 TypeId->Bool
 |[],[]=>true
 |τ::l,t::ts=>Zx P 40 τ t&&vX P l ts
 |_,_=>false
def Rt {r:Reach} {base:Nat}:∀(l:y5 Ty) (τ:Ty) (t:TypeId) (ts:y5 TypeId) (v:Value) (vs:y5 Value) (k:y5 (DataW H)) (ps:y5 MemPlace),vX P (τ::l) (t::ts)=true->DataW.TrodAll enc P w 0 sp held (t::ts) (v::vs) k ps ->
 (∀(j:Nat) t' e,(t::ts)[j]?=some t'->(v::vs)[j]?=some e->Value.okWide P w r base t' e)->∃x:Val (tys τ l),AT w ado l τ x (v::vs)/\Rng (tys τ l) x
 |l,τ,t,ts,v,vs,[],ps,_,h,_=>by cases h
 |[],τ,t,ts,v,vs,d::k,ps,c,h,i=>by
  obtain⟨p,q,h1,h2,_⟩:=h;simp only[vX,bZ] at c
  have:ts=[]:=by cases ts with|nil=>rfl|cons=>simp[vX] at c
  subst this
  have m:vs=[]:=by cases vs with|nil=>rfl|cons=>exact h2.elim
  subst m;obtain⟨x,o,n⟩:=Rs c.1 h1 (i 0 t v rfl rfl);exact⟨x,⟨v,rfl,o⟩,n⟩
 |u::l,τ,t,ts,v,vs,d::k,ps,c,h,i=>by
  obtain⟨p,q,h1,h2,_⟩:=h;simp only[vX,bZ] at c;obtain⟨x,o,n⟩:=Rs c.1 h1 (i 0 t v rfl rfl);rcases ts with _|⟨t2,ts⟩
  ·simp[vX] at c
  ·rcases vs with _|⟨v2,vs⟩
   ·exact h2.elim
   ·obtain⟨y,z,s⟩:=Rt l u t2 ts v2 vs k q c.2 h2 fun j t' e a b=>i (j+1) t' e (by simpa using a) (by simpa using b);exact⟨(show Val (.pair τ (tys u l)) from(x,y)),⟨v,v2::vs,rfl,o,z⟩,n,s⟩
def ZJ {r:Reach} {base:Nat} {l:y5 Ty} {ts:y5 TypeId} {vs:y5 Value} {b:y5 (DataW H)} {ps:y5 MemPlace} (d:vX P l ts=true) (h:DataW.TrodAll enc P w 0 sp held ts vs b ps)
 (i:∀(j:Nat) t' e,ts[j]?=some t'->vs[j]?=some e->Value.okWide P w r base t' e):∃x:Val (tyL l),AL w ado l x vs/\Rng (tyL l) x:=by
 rcases l with _|⟨τ,l⟩
 ·have:ts=[]:=by cases ts with|nil=>rfl|cons=>simp[vX] at d
  subst this
  have c:vs=[]:=by cases vs with|nil=>rfl|cons=>cases b<;>exact h.elim
  exact⟨(show Val .unit from()),c,trivial⟩
 ·rcases ts with _|⟨t,ts⟩
  ·simp[vX] at d
  ·rcases vs with _|⟨v,vs⟩
   ·cases b<;>exact h.elim
   ·exact Rt l τ t ts v vs b ps d h i
def yj (k:laidOutB P=true) {W l:World} (hb:Below W.heap.size W l):∀{ts:y5 TypeId} {vs:y5 Value} {j:y5 (DataW H)} {ps:y5 MemPlace},(ts.all fun t=>P.readableRec t&&decide (t<P.types.size))=true->DataW.TrodAll enc P W 0 (fun _=>true) true ts vs j ps->(∀x∈ps,x.block<W.heap.size) ->
 DataW.TrodAll enc P l 0 (fun b=>decide (b<W.heap.size)) true ts vs j ps
 |[],[],[],ps,_,h,_=>h
 |t::ts,v::vs,d::j,ps,e,h,c=>by
  obtain⟨p,q,h1,h2,rfl⟩:=h;simp only[d8,bZ,decide_eq_true_eq] at e;exact⟨p,q,Below.trod k e.1.1 e.1.2 h1 hb (fun x i=>c x (dh _ i)),yj k hb (by simpa using e.2) h2 (fun x i=>c x (cJ _ i)),rfl⟩
 |[],[],_::_,_,_,h,_=>h.elim
 |[],_::_,_,_,_,h,_=>by cases ‹y5 (DataW H)›<;>exact h.elim
 |_::_,[],_,_,_,h,_=>by cases ‹y5 (DataW H)›<;>exact h.elim
 |_::_,_::_,[],_,_,h,_=>h.elim
def Em {W:World}:∀{ts:y5 TypeId} {vs:y5 Value} {b:y5 (DataW H)} {ps:y5 MemPlace},DataW.TrodAll enc P W 0 sp held ts vs b ps->b.length=ts.length
 |[],[],[],_,_=>rfl
 |_::_,_::_,_::_,_,h=>by obtain⟨p,q,_,h2,_⟩:=h; simp[Em h2]
 |[],[],_::_,_,h=>h.elim
 |[],_::_,b,_,h=>by cases b<;>exact h.elim
 |_::_,[],b,_,h=>by cases b<;>exact h.elim
 |_::_,_::_,[],_,h=>h.elim
end
def joined_of {P:Program} {f:FuncId} {fn:Func} {s:ChangeSpec} {c:OpenClaim} (h1:c.wf (OpenSpec.ofChange s)=true) (h2:laidOutB P=true) (U:mapsRowed P=true) (T:fn.params.all (P.readableRec ·)=true) (S:namedTie P c.named s.vars=true)
 (R:(c.stops==[])=true) (O:(P.stops==[])=true) (N:(c.knobs==[])=true) (L:(P.stopKnobs==[])=true) (K:(c.inPlace==P.inPlace f)=true) (J:(c.unfollowed==P.unfollowed f)=true) (I:(c.recurses==P.recurses f)=true) (G:(c.named==P.varsNamed f)=true)
 (F:(c.maps==(fn.params.toList++s.plain.varTypes P).any (P.mapsRec ·))=true) (E:(c.ifaces==(fn.params.toList++s.plain.varTypes P).any (P.ifacesRec ·))=true) (C:(c.mapsOut==P.mapsAmong fn.resultTypes.toList)=true)
 (B:(c.loops==(fn.params.toList++s.plain.varTypes P).any (P.loopsFrom ·))=true) (A:(c.wideKeys==(fn.params.toList++s.plain.varTypes P++fn.resultTypes.toList).any (P.wideKeysFrom ·))=true)
 (z:s.vars.all (P.varReadable ·)=true) (y:fn.resultTypes.all (fun t=>P.readableRec t&&decide (t<P.types.size))=true) (v:(c.ifacesOut==fn.resultTypes.toList.any (P.ifacesRec ·))=true) (u:(c.loopsOut==fn.resultTypes.toList.any (P.loopsFrom ·))=true)
 (q:(c.plainKeys==P.plainKeys)=true) (o:c.shortTexts.isNone=true) (n:P.stopsHeard=true) (m:P.mayEnter=true) (l:(c.lifted==P.liftsFinal)=true) (j:(P.make==some c.make)=true)
 (i:(c.kinds==(if c.domain.isEmpty then[] else fn.params.toList.map fun t=>match P.underlying t with|some (.int k)=>some k|_=>none))=true) (e:(c.pinned==c.pinnedBy)=true)
 (d:(c.veiled==(fn.params.toList++s.plain.varTypes P++fn.resultTypes.toList).any (P.veiledRec ·))=true) (b:c.veiledFits P fn.params.toList (fn.params.toList++s.plain.varTypes P++fn.resultTypes.toList)=true):joinedFacts P f fn s c=true:=by
 unfold joinedFacts;simp only[h1,h2,U,T,S,R,O,N,L,K,J,I,G,F,E,C,B,A,z,y,v,u,q,o,n,m,l,j,e,d,b,Bool.and_true];exact i
end Go.Am
end

noncomputable section
namespace Go.Am
open Go.ChangeShapes Go.WideShapes Go.ChangeAt Go.RowKit
section
variable {H:Type} {enc:TypeId×Value->H}
def law_laid [Globs] {C:Checked} {os:Os} {f:FuncId} {fn:Func} {sp:ChangeSpec} {F:Stop.Interp} {l:y5 PathCond} {p:Č} {tb:TypeId} {k:y5 (String×DataW Unit)}
 (L:∀W:World,laidMetH C.prog k W->W.ShapedOpen C.prog->Globs.Φ W)
 (own:ownKnob C.prog.godebug=none) (d:os.Started) (m:C.prog.inits.idxOf? f=none) (T:C.prog.funcs[f]?=some fn)
 (c:∃(w:World) (tape:Tape) (i:Input),w.os=os/\(w.forCall tape i).Shaped C.prog/\i.vars=[]/\Input.okWide C.prog (w.forCall tape i) .any w.heap.size f i /\
  (OpenSpec.ofChange sp).preRow enc C.prog fn l false k (w.forCall tape i).memory i.args/\({}:Assume).holds C.prog (lone (Frame.enter C.prog f i.args .normal) [] (w.forCall tape i)))
 (hp:Þ C.prog f p) (o:p.rs=[.bool]) (law:∀x:Val (tyL p.ts),Rng (tyL p.ts) x->p.F x=some (o▸(show Val (tyL [.bool]) from true))) (E:vX C.prog p.ts fn.params.toList=true) (G:sp.vars=[])
 (hs:∀b:y5 (DataW H),b.length=fn.params.toList.length->sp.fn H b={results:=[.lit (.bool true)],args:=b}) (hl:laidOutB C.prog=true) (O:(fn.params.toList.all fun t=>C.prog.readableRec t&&decide (t<C.prog.types.size))=true)
 (I:fn.resultTypes=#[tb]) (z:C.prog.underlying tb=some .bool) :
 ReturnsInHanded {} C os f .any ((OpenSpec.ofChange sp).preRow enc C.prog fn l false k) (((OpenSpec.ofChange sp).at F).post enc C.prog fn false true false false):=by
 refine returnsInHanded_of_row (s:=OpenSpec.ofChange sp) own d m T c ?_;intro W base args b Z J B Y _ _ _ hL N _;have A:=Y;obtain⟨K,q,V,U,rfl,_,_⟩:=Y
 have S:Z=[]/\q=[]:=by
  rw[show(OpenSpec.ofChange sp).vars=sp.vars from rfl,G] at U
  cases Z with
  |nil=>exact⟨rfl,U⟩
  |cons=>exact U.elim
 obtain⟨rfl,rfl⟩:=S;obtain⟨x,h1,h2⟩:=ZJ E V (r:=.any) (base:=base) fun j t v ht hv=>B j t v (by simpa using ht) (by simpa using hv);simp only[cn] at A
 have R:∀x∈K,x.block<W.heap.size:=fun x hx=>by simpa using A.lt x hx
 refine(callsIn_wide (n:=0)).1 ((hp ado x _ (law x h2) W args.toList (fun _ h=>h.elim) (L W hL N) h1).2.mono fun e W' hw=>?_);obtain⟨u,rfl,k1,k2,k3,k4,k5,k6⟩:=hw
 have hu:u=.bool true:=by
  obtain⟨ts,rs,F⟩:=p;dsimp only at o k1;subst o;obtain⟨us,c1,rfl⟩:=k1;have:us=[.bool true]:=c1;rw[this]; rfl
 subst hu;have hb:Below W.heap.size W W':=⟨k4,k5,k6,k3,k2⟩
 have y:sp.fn H (b++[])={results:=[.lit (.bool true)],args:=b}:=by rw[cn]; exact hs b (Em V)
 refine⟨_,rfl,b,[],K,[],K,[],A,?_,?_,?_,hb.frame _,fun h=>by cases h⟩
 ·show DataW.TrodAll _ _ _ _ _ _ _ _ (sp.fn H (b++[])).results _;rw[y,I];exact trodAll_mk1 (shut_bool z _)
 ·show DataW.TrodAll _ _ _ _ _ _ _ _ (sp.fn H (b++[])).args _;rw[y];exact yj hl hb O V R
 ·have e1:((OpenSpec.ofChange sp).at F).fn H (b++[])={results:=[.lit (.bool true)],args:=b}:=y;have e2:((OpenSpec.ofChange sp).at F).vars=[]:=G;rw[e1,e2]; rfl
def witness_laid {C:Checked} {os:Os} {f:FuncId} {fn:Func} {sp:ChangeSpec} {c:y5 PathCond} {b:y5 (String×DataW Unit)} (args:Array Value)
 (z1:((World.laidAll C.prog os b).forCall (fun _ _=>0) ⟨#[],args,[]⟩).variablesZipB C.prog=true)
 (z2:(((World.laidAll C.prog os b).forCall (fun _ _=>0) ⟨#[],args,[]⟩).heap.toList.drop C.prog.globals.size).take ((begin C.prog (fun _ _=>0) default).world.heap.size-C.prog.globals.size)=(begin C.prog (fun _ _=>0) default).world.heap.toList.drop C.prog.globals.size)
 (j:Input.okWideB C.prog ((World.laidAll C.prog os b).forCall (fun _ _=>0) ⟨#[],args,[]⟩) f ⟨#[],args,[]⟩=true)
 (d:sp.preB enc C.prog fn c false ((World.laidAll C.prog os b).forCall (fun _ _=>0) ⟨#[],args,[]⟩).memory args 8=true)
 (e:sp.sizedB enc C.prog fn false ((World.laidAll C.prog os b).forCall (fun _ _=>0) ⟨#[],args,[]⟩).memory args 8=true)
 (k:(b.all fun x=>x.2.handleName?.isNone)=true)
 (l:(World.holding C.prog os ⟨#[],#[],[]⟩).layFits C.prog b []=true)
 (hi:(World.holding C.prog os ⟨#[],#[],[]⟩).layIfaces C.prog b (World.laidAll C.prog os b)=true) :
 ∃(w:World) (tape:Tape) (i:Input),w.os=os/\(w.forCall tape i).Shaped C.prog/\i.vars=[]/\Input.okWide C.prog (w.forCall tape i) .any w.heap.size f i /\
  (OpenSpec.ofChange sp).preRow enc C.prog fn c false b (w.forCall tape i).memory i.args/\({}:Assume).holds C.prog (lone (Frame.enter C.prog f i.args .normal) [] (w.forCall tape i)) :=
 ChangeSpec.witness_shaped (enc:=enc) (X:=fun w _=>laidMetH C.prog b w) false (World.laidAll C.prog os b) args 8 (World.laidAll_os _ _ _) (World.shaped_of_ZipB z1 z2) j d e
  (by rw[MakeChecks.laidMetH_plain _ _ _ k]; exact laidMet_laidAll _ l hi)
def shaped_int {P:Program} {W:World} (o:W.ShapedOpen P) {g:Nat} {t t':TypeId} {zero:Array Value} {k:IntKind} (q:g<P.globals.size) (j:((begin P (fun _ _=>0) default).world.heap[g]?).bind Obj.row?=some (zero,t)) (z:zero.size=1) (hb:P.buildable t=true)
 (v:P.cellTypes P.depth t=some [t']) (n:P.underlying t'=some (.int k)):∃m,W.cell? ⟨g,0,none⟩=some (.int k m):=by
 obtain⟨cs,h1,h2,y⟩:=o.1 g zero t q j;obtain⟨ts,d,_,i⟩:=y hb;rw[v] at d; cases d
 have c:0<cs.size:=by omega
 obtain⟨u,e,b⟩:=i 0 cs[0] (Array.getElem?_eq_getElem c);cases e;unfold Cell.ok at b;rw[n] at b
 have l:W.cell? ⟨g,0,none⟩=some cs[0]:=by simp[World.cell?,h1,c]
 rw[l]
 split at b<;>first|(cases ‹some (TypeDesc.int _)=_›; rename_i s; obtain⟨rfl,_⟩:=b; rw[s]; exact⟨_,rfl⟩)|(simp_all; done)|cases b
def shaped_cel {P:Program} {W:World} (i:W.ShapedOpen P) (ha:((List.range P.globals.size).all fun g=>(((begin P (fun _ _=>0) default).world.heap[g]?).bind Obj.row?).isSome)=true) (b:Nat) (hb:b<P.globals.size):∃c e r,W.heap[b]?=some (.cells c e r):=by
 have:=cr.1 ha b (List.mem_range.2 hb);obtain⟨⟨zero,t⟩,d⟩:=fi.1 this;obtain⟨cs,h1,_⟩:=i.1 b zero t hb d;exact⟨_,_,_,h1⟩
def laid_iface {P:Program} {W:World} {b n:String} {d:DataW Unit} {g ti:Nat} {ms:Array (String×TypeId)} (h:laidMet P [(b,.iface n d)] W) (e:P.globalNamed b=some g) (c:(P.globals[g]?).map (·.type)=some ti) (hi:P.underlying ti=some (.interface ms)) :
 ∃ev,W.cell? ⟨g,0,none⟩=some ev/\(ev=.nilIface\/∃l m,ev=.iface l m):=by
 obtain⟨ps,⟨g',t,cs,i,p,q,k,j,y,s,_,_⟩,_⟩:=h;rw[e] at k; cases k;rw[c] at j; cases j;obtain⟨_,u,v,o,_,_⟩:=iface_of_trod hi s;refine⟨.iface u v,?_,.inr ⟨u,v,rfl⟩⟩;rw[World.var?_cell e y 0,<-fc,o]; rfl
end
end Go.Am
end

noncomputable section
namespace Go.Am
open Go.RowKit
section
variable [Globs] {P:Program} {f:Nat} {p:Č}
def jF (hb:∃fn c,P.funcs[f]?=some fn/\fn.body=some c) (h:∀(G:Nat->Prop) (x:Val (tyL p.ts)) (y:Val (tyL p.rs)),p.F x=some y->∀(w:World) (vals:y5 Value),(∀b,G b->b<w.heap.size)->Globs.Φ w->AL w G p.ts x vals ->
 Calls P f vals.toArray w fun e w'=>∃u,e=.returned u/\RR w' G p.rs y u/\Below w.heap.size w w'):Þ P f p:=by
 intro G x y l w vals k d i;refine⟨hb,(callsIn_wide (n:=0)).2 ((h G x y l w vals k d i).mono fun e w' j=>?_)⟩;obtain⟨u,rfl,h1,h2⟩:=j;exact⟨u,rfl,h1,fun b hb=>h2.block b hb,h2.size,h2.os,h2.tape,h2.output⟩
end
def Cm {w:World} {G:Nat->Prop} {s:ByteArray} {v:Value} (h:Ν w G .str s v):v=.string s:=by
 obtain⟨us,h1,rfl⟩:=h;have:us=[.string s]:=h1;rw[this]; rfl
def Zf {w:World} {G:Nat->Prop} {k:IntKind} {n:Int} {v:Value} (h:Ν w G (.int k) n v):v=.int k n:=by
 obtain⟨us,h1,rfl⟩:=h;have:us=[.int k n]:=h1;rw[this]; rfl
def Kk {w:World} {G:Nat->Prop} (s:ByteArray):Ν w G .str s (.string s):=⟨[.string s],rfl,rfl⟩
def int_arg {w:World} {G:Nat->Prop} (k:IntKind) (n:Int):Ν w G (.int k) n (.int k n):=⟨[.int k n],rfl,rfl⟩
def ZT {w:World} {G:Nat->Prop} {b:Nat} {xs:y5 ByteArray} {cs:Array Value} {e:TypeId} (hb:w.heap[b]?=some (.cells cs e (0,0))) (l:¬G b) (k:cs=(xs.map Value.string).toArray):Ν w G (.slice .str) xs (.slice (some ⟨b,0,none⟩) xs.length xs.length):=by
 refine⟨[_],⟨some ⟨b,0,none⟩,xs.length,rfl,bX _,.inr ⟨b,0,rfl,l,Ù hb,fun i x d=>⟨[.string x],rfl,fun j v c=>?_⟩⟩⟩,rfl⟩
 cases j with
 |succ j=>simp at c
 |zero =>
  simp only[dW,Option.some.injEq] at c;subst c
  have hi:cs[i]?=some (.string x):=by rw[k]; simp[d9,d]
  unfold World.cell?
  simp[hb,Ty.size,hi]
def abB {w:World} {G:Nat->Prop} {xs:y5 ByteArray} {v:Value} (h:Ν w G (.slice .str) xs v):∃base cap,v=.slice base xs.length cap/\xs.length<=cap/\(xs=[]\/∃b o,base=some ⟨b,o,none⟩/\b<w.heap.size/\∀(j:Nat) (x:ByteArray),xs[j]?=some x->w.cell? ⟨b,o+j,none⟩=some (.string x)):=by
 obtain⟨us,⟨base,cap,e,l,h1⟩,rfl⟩:=h;refine⟨base,cap,?_,l,?_⟩
 ·rw[e]; rfl
 ·rcases h1 with h1|⟨b,off,hb,_,c,h2⟩
  ·exact .inl h1
  ·refine .inr ⟨b,off,hb,c,fun j x k=>?_⟩;obtain⟨us,i,d⟩:=h2 j x k;have:us=[.string x]:=i;subst this;have:=d 0 (.string x) (by simp);simpa[Ty.size] using this
end Go.Am
end

noncomputable section
namespace Go.Am
abbrev ilt (a b:Int):Bool:=decide (a<b)
abbrev ile (a b:Int):Bool:=decide (a<=b)
abbrev igt (a b:Int):Bool:=decide (a>b)
abbrev ige (a b:Int):Bool:=decide (a>=b)
abbrev ieq (a b:Int):Bool:=a==b
abbrev ine (a b:Int):Bool:=a != b
abbrev ĺ (a b:Int):Bool:=decide (a=b)
abbrev Û {α:Type} (l:y5 α):Int:=DX l.length
abbrev ē {α:Type} (l:y5 α):Int:=(l.length:Int)
section
variable {ρ:Type}
def ck (n:Int) (f:Int->x9 ρ):x9 ρ:=f (PC n)
def ă {α:Type} (l:y5 α) (i:Int) (f:α->x9 ρ):x9 ρ :=
 match decide (0<=i) with
 |true=>match l[i.toNat]? with
  |some e=>f e
  |none=>none
 |false=>none
def gO {α:Type} (l:y5 α) (i:Nat) (f:α->x9 ρ):x9 ρ :=
 match l[i]? with
 |some e=>f e
 |none=>none
def Mm {k v:Ty} (x:Val k) (l:y5 (Val k×Val v)) (f:Val v->x9 ρ) (g:x9 ρ):x9 ρ :=
 match pO x l with
 |some y=>f y
 |none=>g
def ä (b:Bool) (x:x9 ρ):x9 ρ:=match b with|true=>x|false=>none
def sget (s:ByteArray) (i:Int) (f:Int->x9 ρ):x9 ρ :=
 match decide (0<=i) with
 |true=>match s[i.toNat]? with
  |some b=>f b.toNat
  |none=>none
 |false=>none
def ifb (b:Bool) (x y:x9 ρ):x9 ρ:=match b with|true=>x|false=>y
def MY (x:x9 (y5 Int)) (f:Int->x9 ρ) (n:x9 ρ):x9 ρ :=
 Ã x fun l=>match l.find? (fun e=>e != 0) with
  |some e=>f e
  |none=>n
def E7 {α β:Type} (f:α->x9 β):y5 α->x9 (y5 β)
 |[]=>some []
 |a::l=>match f a with
  |some b=>match E7 f l with
   |some m=>some (b::m)
   |none=>none
  |none=>none
def ta (n:Nat):y5 Int:=(List.range n).map fun(i:Nat)=>(i:Int)
end
end Go.Am
end

noncomputable section
namespace Go.Am
open Go
def i64B (n:Int):Bool:=decide (-9223372036854775808<=n)&&decide (n<=9223372036854775807)
def XH (n:Int):x9 ByteArray:=if i64B n then some ⟨(Lib.itoa n).toArray⟩ else none
def VG (s p:ByteArray):x9 ByteArray:=if s.size<=9223372036854775807 then some ⟨(Lib.trimSuffix s.data.toList p.data.toList).toArray⟩ else none
def indexF (s:ByteArray) (c:Int):x9 Int:=some (Lib.indexByte s.data.toList c.toNat.toUInt8)
def tp (s b:ByteArray):x9 (y5 ByteArray):=if decide (s.size<4294967281)&&decide (1<=b.size) then some (Lib.splitB b 0 (Lib.countB s b) s) else none
def XF (xs:y5 ByteArray) (b:ByteArray):x9 ByteArray:=if decide (xs.length<=140737488355328)&&decide ((Lib.join (xs.map (·.data.toList)) b.data.toList).length<=140737488355328) then some ⟨(Lib.join (xs.map (·.data.toList)) b.data.toList).toArray⟩ else none
def Vi (s:ByteArray):x9 (Int×Bool):=match decide (s.size<=281474976710656) with
 |true=>some (match Lib.atoiAll s.data.toList with
  |.ok v=>(v,false)
  |.range=>(Lib.atoiSat s.data.toList,true)
  |_=>(0,true))
 |false=>none
def gA:=XH
def Ň:=VG
def nT:=tp
def pv:=XF
def mm:Nat->ByteArray->y5 ByteArray
 |0,_=>[]
 |n+1,s=>if s.size=0 then[] else if 0<=Lib.indexByte s.data.toList 10 then s.extract 0 (Lib.indexByte s.data.toList 10+1).toNat::mm n (s.extract (Lib.indexByte s.data.toList 10+1).toNat s.size) else[s]
def w8 (s:ByteArray):y5 ByteArray:=mm s.size s
section
variable {ρ:Type}
def acN {α β:Type} (kn:α->x9 ρ) (b:β->x9 ρ):Sum α β->x9 ρ
 |.inl v=>kn v
 |.inr z=>b z
def Zy {α β γ:Type} (f:α->β->x9 (Sum α γ)):y5 β->α->(α->x9 ρ)->(γ->x9 ρ)->x9 ρ
 |[],v,kn,_=>kn v
 |y::ys,v,kn,kx=>Ã (f v y) (acN (fun v=>Zy f ys v kn kx) kx)
end
section
variable {ρ:Type} {σ:Type}
def aao {α:Type} (x:α) (k:α->x9 σ):Ã (some x) k=k x:=rfl
def aas {α:Type} (x:x9 α) (f:α->x9 ρ) (k:ρ->x9 σ):Ã (Ã x f) k=Ã x fun a=>Ã (f a) k:=by cases x<;>rfl
def ac5 (b:Bool) (x y:x9 ρ) (k:ρ->x9 σ):Ã (ifb b x y) k=ifb b (Ã x k) (Ã y k):=by cases b<;>rfl
def ac4 (b:Bool) (x:x9 ρ) (k:ρ->x9 σ):Ã (ä b x) k=ä b (Ã x k):=by cases b<;>rfl
def aar {α:Type} (l:y5 α) (i:Int) (f:α->x9 ρ) (k:ρ->x9 σ):Ã (ă l i f) k=ă l i fun a=>Ã (f a) k:=by
 unfold ă; cases decide (0<=i)
 ·rfl
 ·cases l[i.toNat]?<;>rfl
def aaq {α:Type} (l:y5 α) (i:Nat) (f:α->x9 ρ) (k:ρ->x9 σ):Ã (gO l i f) k=gO l i fun a=>Ã (f a) k:=by
 unfold gO; cases l[i]?<;>rfl
def aap (s:ByteArray) (i:Int) (f:Int->x9 ρ) (k:ρ->x9 σ):Ã (sget s i f) k=sget s i fun a=>Ã (f a) k:=by
 unfold sget; cases decide (0<=i)
 ·rfl
 ·cases s[i.toNat]?<;>rfl
def nat_ck (n:Int) (f:Int->x9 ρ) (k:ρ->x9 σ):Ã (ck n f) k=ck n fun a=>Ã (f a) k:=rfl
end
end Go.Am
end
