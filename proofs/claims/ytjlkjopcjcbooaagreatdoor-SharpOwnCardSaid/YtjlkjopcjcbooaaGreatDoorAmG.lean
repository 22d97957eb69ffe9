/- lemmas -/
import Derived.Test.YtjlkjopcjcbooaaGreatDoorAmC
import Derived.RangeFuncNested
set_option linter.all false
noncomputable section
namespace Go.Am
open Go.RowKit
def mfT:Ty->Bool
 |.map _ _=>false
 |.slice t=>mfT t
 |.ptr t=>mfT t
 |.pair a b=>mfT a&&mfT b
 |_=>true
def mfV0:AV->Bool
 |.slc t _=>mfT t
 |.mp _ _ _=>false
 |.eptr t _ _=>mfT t
 |_=>true
def mfV1:AV->Bool
 |.fn _ a b=>a.all mfV0&&b.all mfV0
 |a=>mfV0 a
def mfV2:AV->Bool
 |.agg cs=>cs.all mfV1
 |a=>mfV1 a
def mfV3:AV->Bool
 |.tup cs=>cs.all mfV2
 |a=>mfV2 a
def mfB:Blk->Bool
 |.dead=>true
 |.cells cs=>cs.all mfV1
 |.row t _ _ _=>mfT t
 |.map k v _=>mfT k&&mfT v
 |.deep _ _ _=>true
 |.acc _ _=>false
 |.fns _=>false
 |.iter _ _=>false
structure Θ (w w':World):Prop where
 size:w.heap.size<=w'.heap.size
 same:∀(b:Nat) (c:Array Value) (e:TypeId) (r:Nat×Nat),w.heap[b]?=some (.cells c e r)->w'.heap[b]?=some (.cells c e r)
section
variable {w w':World}
def Θ.cell (K:Θ w w') {a:Addr} {v:Value} (h:w.cell? a=some v):w'.cell? a=some v:=by
 unfold World.cell? at h ⊢
 split at h<;>try (cases h; done)
 rename_i c e r hb;rw[K.same _ _ _ _ hb]; exact h
def Θ.at_ (K:Θ w w') {b off:Nat} {vs:y5 Value} (h:ę w b off vs):ę w' b off vs:=fun j v c=>K.cell (h j v c)
def CR.ckeep (K:Θ w w') {av:Nat->Prop}:∀{t:Ty} {x:Val t} {vs:y5 Value},mfT t=true->CR w av t x vs->CR w' av t x vs
 |.unit,_,_,_,h=>h
 |.bool,_,_,_,h=>h
 |.int _,_,_,_,h=>h
 |.str,_,_,_,h=>h
 |.slice t,xs,vs,c,h=>by
  obtain⟨base,cap,e,o,h⟩:=h;refine⟨base,cap,e,o,?_⟩;rcases h with h|⟨b,off,hb,j,d,h⟩
  ·exact .inl h
  ·refine .inr ⟨b,off,hb,j,cf d K.size,fun i x m=>?_⟩;obtain⟨us,h1,h2⟩:=h i x m;exact⟨us,CR.ckeep K c h1,K.at_ h2⟩
 |.map k v,es,vs,c,h=>by cases c
 |.ptr t,x,vs,c,h=>by
  obtain⟨b,off,us,e,j,d,h1,h2⟩:=h;exact⟨b,off,us,e,j,cf d K.size,CR.ckeep K c h1,K.at_ h2⟩
 |.pair a b,x,vs,c,h=>by
  obtain⟨us,ws,e,h1,h2⟩:=h;simp only[mfT,bZ] at c;exact⟨us,ws,e,CR.ckeep K c.1 h1,CR.ckeep K c.2 h2⟩
def í.mem {α β:Type} {R d:α->β->Prop}:∀{l:y5 α} {m:y5 β},(∀a∈l,∀b,R a b->d a b)->í R l m->í d l m
 |[],[],_,_=>trivial
 |a::l,b::m,c,h=>⟨c a (by simp) b h.1,í.mem (fun a ha=>c a (by simp[ha])) h.2⟩
 |[],_::_,_,h=>h.elim
 |_::_,[],_,h=>h.elim
end
variable [Globs] [É]
section
variable {ν ν':Nat->Value} {h h':y5 Blk} {w w':World}
def VR0.ckeep (K:Θ w w') {a:AV} {v:Value} (d:mfV0 a=true) (c:VR0 ν h w a v):VR0 ν h w' a v:=by
 cases a with
 |slc t xs=>exact CR.ckeep K (t:=.slice t) d c
 |mp k t es=>cases d
 |eptr t x off =>
  obtain⟨b,o,us,h1,h2,j,i,e⟩:=c;exact⟨b,o,us,h1,h2,cf j K.size,CR.ckeep K d i,K.at_ e⟩
 |_=>exact c
def VR1.ckeep (K:Θ w w') {a:AV} {v:Value} (b:mfV1 a=true) (c:VR1 ν h w a v):VR1 ν h w' a v:=by
 cases d:a.isFn with
 |true =>
  cases a<;>try cases d
  obtain⟨fs,cs,h1,h2,e⟩:=c;simp only[mfV1,bZ,cr] at b;exact⟨fs,cs,h1,h2.mem fun a ha _=>VR0.ckeep K (b.1 a ha),e.mem fun a ha _=>VR0.ckeep K (b.2 a ha)⟩
 |false =>
  rw[qL d] at c ⊢;refine VR0.ckeep K ?_ c
  cases a<;>first|exact b|cases d
def VR2.ckeep (K:Θ w w') {a:AV} {v:Value} (c:mfV2 a=true) (b:VR2 ν h w a v):VR2 ν h w' a v:=by
 cases d:a.isAgg with
 |true =>
  cases a<;>try cases d
  obtain⟨vs,h1,h2⟩:=b;simp only[mfV2,cr] at c;exact⟨vs,h1,h2.mem fun a ha _ e=>⟨VR1.ckeep K (c a ha) e.1,e.2⟩⟩
 |false =>
  rw[sR d] at b ⊢;refine VR1.ckeep K ?_ b
  cases a<;>first|exact c|cases d
def VR.ckeep (K:Θ w w') {a:AV} {v:Value} (c:mfV3 a=true) (b:VR ν h w a v):VR ν h w' a v:=by
 cases d:a.isTup with
 |true =>
  cases a<;>try cases d
  obtain⟨vs,h1,h2⟩:=b;simp only[mfV3,cr] at c;exact⟨vs,h1,h2.mem fun a ha _=>VR2.ckeep K (c a ha)⟩
 |false =>
  rw[qK d] at b ⊢;refine VR2.ckeep K ?_ b
  cases a<;>first|exact c|cases d
def HR.ckeep (K:Θ w w') (M:∀id k v es b,lkB h id=.map k v es->ν id=.map (some b)->w'.heap[b]?=w.heap[b]?) (d:∀id,mfB (lkB h id)=true) (H:HR ν h w):HR ν h w':=by
 refine⟨fun id=>?_,H.inj,fun b hb=>cf (H.ghlt b hb) K.size,H.ghne,Globs.keep _ _ H.glob (fun b hb=>by obtain⟨c,e,r,q⟩:=Globs.cel w H.glob b hb; rw[q]; exact K.same _ _ _ _ q),H.globL⟩;have o:=H.blk id;have d:=d id;have M:=M id
 cases z:lkB h id with
 |dead=>trivial
 |cells cs =>
  rw[z] at o d;obtain⟨b,c,e,h1,h2,y⟩:=o;simp only[mfB,cr] at d;exact⟨b,c,e,h1,K.same _ _ _ _ h2,y.mem fun a ha _ O=>⟨VR1.ckeep K (d a ha) O.1,O.2⟩⟩
 |row t g fz xs =>
  rw[z] at o d
  cases fz with
  |true=>exact CR.ckeep K (t:=.slice t) d o
  |false =>
   obtain⟨base,cap,h1,h2,y⟩:=o;refine⟨base,cap,h1,h2,?_⟩;rcases y with y|⟨b,off,c,e,D,N,U,T⟩
   ·exact .inl y
   ·refine .inr ⟨b,off,c,e,D,K.same _ _ _ _ N,U,fun i x L=>?_⟩;obtain⟨us,C,B⟩:=T i x L;exact⟨us,CR.ckeep K d C,K.at_ B⟩
 |map k v es =>
  rw[z] at o d;obtain⟨b,j,E,h1,h2,y,D⟩:=o;simp only[mfB,bZ] at d;refine⟨b,j,E,h1,(M k v es b z h1).trans h2,y,fun i x L=>?_⟩;obtain⟨m,us,C,B,A,J⟩:=D i x L;exact⟨m,us,C,CR.ckeep K d.1 B,CR.ckeep K d.2 A,J⟩
 |deep k g xss =>
  rw[z] at o;obtain⟨base,cap,us,h1,h2,y,D,N⟩:=o;refine⟨base,cap,us,h1,h2,y,?_,N.mono fun xs u S=>?_⟩
  ·rcases D with D|⟨b,off,c,e,C,B,A⟩
   ·exact .inl D
   ·exact .inr ⟨b,off,c,e,C,K.same _ _ _ _ B,A⟩
  ·obtain⟨G,I,C,B,A⟩:=S;refine⟨G,I,C,B,?_⟩;rcases A with A|⟨b,off,c,e,J,R,Q⟩
   ·exact .inl A
   ·exact .inr ⟨b,off,c,e,J,K.same _ _ _ _ R,Q⟩
 |acc t xs=>rw[z] at d; cases d
 |fns es=>rw[z] at d; cases d
 |iter s q=>rw[z] at d; cases d
structure Zo (B:Nat) (ν:Nat->Value) (h:y5 Blk):Prop where
 lt:∀id k v es b,lkB h id=.map k v es->ν id=.map (some b)->b<B
 na:∀id t xs,lkB h id≠.acc t xs
 nf:∀id es,lkB h id≠.fns es
 ni:∀id s q,lkB h id≠.iter s q
def G5 {B:Nat} {row:x9 Nat} (i:w.grownBy w' row) (j:∀r,row=some r->B<=r/\∃o:Obj,w.heap[r]?=some o/\o.isCells=false):Θ w w' :=
 ⟨i.size,fun b c e r hb=>(i.block b (Ù hb) fun q=>by obtain⟨_,o,d,m⟩:=j b q.symm; rw[hb] at d; cases d; cases m).trans hb⟩
def Sim.ckeep {S:St} {a:Act} (K:Θ w w') (j:Fr w' a.defers) (e:∀id k v es b,lkB S.h id=.map k v es->ν id=.map (some b)->w'.heap[b]?=w.heap[b]?) (d:∀id,mfB (lkB S.h id)=true) (c:∀i,mfV3 (lk S.t i)=true) (H:Sim ν S a w):Sim ν S a w' :=
 ⟨j,H.len,fun i=>(H.tmps i).ckeep K (c i),H.heap.ckeep K e d⟩
def JI {B:Nat} (H:HR ν h w) (z:Zo B ν h) {k:Nat} {o:Obj} (U:B<=k) (m:w.heap[k]?=some o) (E:o.isCells=false):¬mq ν h k:=by
 rintro⟨id,h1,h2⟩;have y:=H.blk id;have M:=z.na id;have L:=z.nf id;have K:=z.ni id;have z:=z.lt id
 cases d:lkB h id with
 |dead=>rw[d] at h1; cases h1
 |cells cs =>
  rw[d] at y;obtain⟨b,c,e,j,I,_⟩:=y;rw[j] at h2;cases h2;rw[I] at m; cases m; cases E
 |row t g fz xs =>
  rw[d] at y h1
  cases fz with
  |true=>cases h1
  |false =>
   obtain⟨base,cap,j,_,G⟩:=y;rw[j] at h2;rcases G with⟨C,_⟩|⟨b,off,c,e,C,A,_⟩
   ·rw[C] at h2; cases h2
   ·rw[C] at h2;cases h2;rw[A] at m; cases m; cases E
 |map Q v es =>
  rw[d] at y;obtain⟨b,D,N,j,I,_⟩:=y;have:=z Q v es b d j;rw[j] at h2;cases h2;omega
 |deep Q g xss =>
  rw[d] at y;obtain⟨base,cap,us,j,I,_,G,C⟩:=y;rw[j] at h2;obtain⟨u,J,hb⟩:=nz.1 h2;rcases b9.1 J with rfl|J
  ·rcases G with⟨rfl,_⟩|⟨b,off,c,e,rfl,A,_⟩
   ·cases hb
   ·cases hb;rw[A] at m; cases m; cases E
  ·obtain⟨i,hi,rfl⟩:=cm.1 J;obtain⟨xs,_,O,R,T,_,A⟩:=C.get' (bY hi);rw[T] at hb;rcases A with⟨rfl,_⟩|⟨b,off,c,e,rfl,S,_⟩
   ·cases hb
   ·cases hb;rw[S] at m; cases m; cases E
 |acc t xs=>exact absurd d (M _ _)
 |fns es=>exact absurd d (L _)
 |iter s q=>exact absurd d (K _ _)
def CV {B m:Nat} (H:HR ν h w) (d:Zo B ν h) (e:Ev m ν h w ν' h' w'):KeepsFrom B w w' :=
 ⟨e.size,fun k o i b c=>(e.keep k (Ù b) (JI H d i b c)).1.trans b⟩
end
section
variable {F:Fence} {n:Nat} {P:Program} {w:World}
omit [É] in
def HA {α:Type} {g:Operand} {ps:Array Tmp} {assign body:Code} {Q:Exit->Act->World->Prop} {a:Act}
 (hro:F.round=none) (h1:1<=n) {gf:Nat} {lb:Array Value} (hg:a.eval g=.func (.func gf) #[] lb) (hFg:F.fn gf) (eg:∀args w,(callFunc gf args).run P w=.ok (.enter gf args) w)
 {encs:α->Array Value} {Kp:World->World->Prop} {S Sp:y5 α->Prop} {N:Nat} {w0:World} (hseq:SeqStopsK F (n-1) P gf lb encs Kp S Sp N w0)
 (hKt:∀{A B C:World},Kp A B->Kp B C->Kp A C) (hKb:∀(W:World) (l:Nat) (o o':Obj),w.heap.size<=l->W.heap[l]?=some o->o.isCells=false->o.isWalk=false->Kp W (W.putObj l o')) (hb0:Below w0.heap.size w0 w) (hps:∀x,(encs x).size=ps.size)
 (I:y5 α->World->Prop) (hI:OwnFrom w.heap.size I) (h0:I [] w)
 (hround:∀(l:Nat) (pre:y5 α) (x:α) (W:World),w.heap.size<=l->(∃r,W.heap[l]?=some (.loop r))->I pre W->pre.length<N ->
  assign.wpIn (F.inRound l) (n-1-1) P (Exit.then (fun a' Wa=>KeepsFrom w.heap.size W Wa/\∀r',(∃r,Wa.heap[l]?=some (.loop r)) ->
   body.wpIn (F.inRound l) (n-1-1) P (Exit.then (fun _ W3=>KeepsFrom w.heap.size (Wa.putObj l (.loop r')) W3/\Kp W W3/\I (pre++[x]) W3) (fun _ _ _=>False)) a' (Wa.putObj l (.loop r'))) (fun _ _ _=>False))
   {tmps:=(ps.zip (encs x)).foldl (fun t (p,v)=>t.setIfInBounds p v) a.tmps,defers:=[]} W)
 (hdone:∀(D:Nat) (xs:y5 α) (W:World),w.heap.size<=D->S xs->I xs W->W.heap[D]?=some (.deferred (some []))->Q .normal {a with defers:={target:=.collected D,args:=#[]}::a.defers} W) :
 (Code.rangeFunc g ps assign body).wpIn F n P Q a w:=by
 refine wpIn_rangeFunc ?_;intro fn hfn;rw[hro];obtain⟨rec,hrec⟩:∃rec:LoopState->x9 Code->Loop,rec=fun st pe=>{state:=st,pending:=pe,fn,tmps:=a.tmps,params:=ps,assign,body,defers:=w.heap.size}:=⟨_,rfl⟩;obtain⟨W1,hW1⟩:∃W1,(w.alloc (.deferred (some []))).alloc (.loop (rec .ready none))=W1:=⟨_,rfl⟩
 have hL1:W1.heap[w.heap.size+1]?=some (.loop (rec .ready none)):=by
  rw[<-hW1]; have:=World.alloc_heap_new (w.alloc (.deferred (some []))) (.loop (rec .ready none)); rwa [World.size_alloc] at this
 have hK1:W1.heap[w.heap.size]?=some (.deferred (some [])):=by
  rw[<-hW1]; exact(Below.heap_alloc _ _ _ (by simp)).trans (World.alloc_heap_new w _)
 have hI1:I [] W1:=by rw[<-hW1]; exact hI.alloc _ (hI.alloc _ h0)
 have hb1:Below w0.heap.size w0 W1:=by
  rw[<-hW1]; exact hb0.trans ((((Below.refl _ w).alloc (bX _) _).alloc (by simp) _).mono hb0.size)
 refine⟨w.heap.size+1,[{target:=.collected w.heap.size,args:=#[]}],W1,{target:=.fn (.func gf) lb,args:=#[.func (.yield (w.heap.size+1)) #[] #[]]},W1,gf,
  #[.func (.yield (w.heap.size+1)) #[] #[]]++lb,W1,?_,?_,?_,?_,fun _=>h1,?_⟩
 ·rw[<-hW1,hrec]; exact run_enterLoop_outer _ _ _ _ _
 ·simp only[resolve,hg];simp[go_sem]
 ·intro f' hf'; simp[Target.leads] at hf'; subst hf'; exact hFg
 ·simp[invoke,go_sem,eg]
 ·have hnw:∀{A B:World} {row:x9 Nat},(∀r,row=some r->W1.heap.size<=r/\∃o:Obj,A.heap[r]?=some o/\o.isWalk=true)->(∀r,row=some r->w.heap.size<=r/\∃o:Obj,A.heap[r]?=some o/\o.isCells=false) :=
   fun hr r e=>by obtain⟨hB,o,ho,hw⟩:=hr r e; exact⟨by rw[<-hW1] at hB; simp at hB; omega,o,ho,Obj.not_cells_of_walk hw⟩
  refine(hseq (w.heap.size+1)
   (fun pre W=>I pre W/\W.heap[w.heap.size+1]?=some (.loop (rec .ready none))/\W.heap[w.heap.size]?=some (.deferred (some [])))
   (fun _ _=>False)
   W1 hb1
   (fun s A B row hs hg' hr=>⟨hI s A B row hs.1 hg' (hnw (B:=B) hr),(grownBy_keeps hg' (fun r e=>(hr r e).2) hs.2.1 rfl).trans hs.2.1,(grownBy_keeps hg' (fun r e=>(hr r e).2) hs.2.2 rfl).trans hs.2.2⟩)
   (fun s A B row hs _ _=>hs)
   ?_ ⟨hI1,hL1,hK1⟩).mono ?_
  ·rintro pre x W ⟨hi,hl,hk⟩ hlen;have hy:=run_yield (P:=P) (args:=encs x) hl (by rw[hrec]; exact hps x);rw[hrec] at hy;refine⟨fn,_,assign,body,hy,roundIn_of_wpIn hfn (wpIn_mono (hround _ pre x W (by omega) ⟨_,hl⟩ hi hlen) ?_)⟩;clear hy;intro e a' Wa ha
   cases e with
   |normal =>
    obtain⟨hkfa,hbody⟩:=ha;have hla:=hkfa.same _ _ (by omega) hl rfl;have hka:=hkfa.same _ _ (bX _) hk rfl;have hlt:w.heap.size+1<Wa.heap.size:=(dA.1 hla).1;refine⟨_,run_beginRound hla (by rw[hrec]),?_⟩;have hl2:(Wa.putObj (w.heap.size+1) (.loop {rec .ready none with state:=.busy})).heap[w.heap.size+1]?=some (.loop {rec .ready none with state:=.busy}):=World.putObj_heap_same hlt;have hk2:(Wa.putObj (w.heap.size+1) (.loop {rec .ready none with state:=.busy})).heap[w.heap.size]?=some (.deferred (some [])):=(World.putObj_heap_other (by omega)).trans hka;refine wpIn_mono (hbody _ ⟨_,hla⟩) ?_;rintro e a3 W3 hp
    cases e with
    |normal =>
     obtain⟨hk3,hkp3,hi3⟩:=hp;have hl3:=hk3.same _ _ (by omega) hl2 rfl;have hr:=run_endRound (P:=P) none hl3;rw[hrec] at hr hl3;refine⟨_,_,hr,.inl ⟨rfl,⟨hI.putObj _ hi3 (by omega) hl3 rfl,?_,(World.putObj_heap_other (by omega)).trans (hk3.same _ _ (bX _) hk2 rfl)⟩,hKt hkp3 (hKb _ _ _ _ (by omega) hl3 rfl rfl)⟩⟩;rw[hrec];exact World.putObj_heap_same (dA.1 hl3).1
    |_=>exact hp.elim
   |_=>exact ha.elim
  ·rintro e W2 ⟨⟨v,rfl⟩,(⟨xs,hS,hi,hl,hk⟩|⟨pre,hSp,hf⟩)⟩
   ·exact⟨none,_,by have:=run_endLoop (P:=P) hl (by rw[hrec]; simp); rw[hrec] at this; exact this,hdone _ xs _ (bX _) hS (hI.putObj _ hi (by omega) hl rfl) ((World.putObj_heap_other (by omega)).trans hk)⟩
   ·exact hf.elim
end
def preC:Nat->Code->Code
 |0,.seq (.seq a _) _=>a
 |n+1,.seq a b=>.seq a (preC n b)
 |_,c=>c
def rfC:Nat->Code->Code
 |0,.seq (.seq _ r) _=>r
 |n+1,.seq _ b=>rfC n b
 |_,c=>c
def postC:Nat->Code->Code
 |0,.seq _ b=>b
 |n+1,.seq _ b=>postC n b
 |_,c=>c
def Km:Nat->Code->Bool
 |0,.seq (.seq _ _) _=>true
 |n+1,.seq _ b=>Km n b
 |_,_=>false
def rfA:Code->Code
 |.block _ (.rangeFunc _ _ a _)=>a
 |_=>.skip
def rfB:Code->Code
 |.block _ (.rangeFunc _ _ _ b)=>b
 |_=>.skip
def SB:∀(N:Nat) (c:Code) (bid:Nat) {z:Nat×LI},Km N c=true->z∈Ñ bid (postC N c)->z∈Ñ bid c
 |0,.seq (.seq _ _) _,_,_,_,d=>cJ _ d
 |N+1,.seq a b,bid,z,h,d=>cJ _ (SB N b bid h d)
variable {ρ:Type}
def matK (T:Tpl) (pin:Nat) (cs vs:y5 Ty) (k:Val (tyL cs)->Val (tyL vs)->x9 ρ) (e:Exit) (S:St):x9 ρ:=match e with
 |.normal=>match lr T pin cs vs S with
  |some (p,v)=>k p v
  |none=>none
 |_=>none
def matR (T:Tpl) (pin:Nat) (vs:y5 Ty) (k:Val (tyL vs)->x9 ρ) (e:Exit) (S:St):x9 ρ:=match e with
 |.ret=>match lr T pin [] vs S with
  |some (_,v)=>k v
  |none=>none
 |_=>none
def WY {T:Tpl} {pin:Nat} {vs:y5 Ty} {k:Val (tyL vs)->x9 ρ} {e:Exit} {S:St} {r:ρ} (h:matR T pin vs k e S=some r):e=.ret/\∃v,lr T pin [] vs S=some ((),v)/\k v=some r:=by
 unfold matR at h
 split at h<;>try (cases h; done)
 split at h<;>try (cases h; done)
 rename_i p v b;exact⟨rfl,v,b,h⟩
def yQ {T:Tpl} {pin:Nat} {cs vs:y5 Ty} {k:Val (tyL cs)->Val (tyL vs)->x9 ρ} {e:Exit} {S:St} {r:ρ} (h:matK T pin cs vs k e S=some r):e=.normal/\∃p v,lr T pin cs vs S=some (p,v)/\k p v=some r:=by
 unfold matK at h
 split at h<;>try (cases h; done)
 split at h<;>try (cases h; done)
 rename_i p v b;exact⟨rfl,p,v,b,h⟩
section
variable {ν:Nat->Value} {w:World}
def peelN (d:É.Q=none) {E:Env ρ} {call:y5 Nat->Bool->Nat->y5 AV->y5 Blk->(AV->y5 Blk->x9 ρ)->x9 ρ} {L:Nat} (B:gN E L call) (C:kd E L call) (J:E.joins=fun _ _ _ _=>none) {fid:Nat} {path:y5 Nat} (u:path.length+2=L) {bid n:Nat} {K:Exit->St->x9 ρ} {r:ρ} {Q:Exit->Act->World->Prop} (A:∀e S,e≠.normal->K e S≠some r) :
 ∀(N:Nat) (c:Code) (S:St) (ν:Nat->Value) (a:Act) (w:World),Km N c=true->(∀z∈Ñ bid c,iy E path fid z.1 z.2)->goC E call fid path 0 bid (preC N c) S K=some r->Sim ν S a w ->
  (∀ν' i j w',Sim ν' i j w'->Ev 0 ν S.h w ν' i.h w'->K .normal i=some r->(rfC N c).wpIn Fence.wide n E.P (Exit.then ((postC N c).wpIn Fence.wide n E.P Q) Q) j w')->c.wpIn Fence.wide n E.P Q a w
 |0,.seq (.seq x y) z,S,ν,a,w,_,s,e,H,v=>by
  have b:=iP B C u x bid S _ ν a w (fun q d=>s q (by simp[Ñ,d])) e H (cG _);rw[vx d] at b;refine wpIn_seq (wpIn_seq (wpIn_wide.2 (wpIn_wide.1 (wpIn_mono b fun D j w' ha=>?_))));obtain⟨ν',i,h1,h2,R,O,o⟩:=ha
  cases D with
  |normal=>exact v ν' i j w' h1 h2 o
  |_=>exact absurd o (A _ _ (by simp))
 |N+1,.seq x c,S,ν,a,w,M,s,e,H,v=>by
  simp only[preC,goC,J] at e;have b:=iP B C u x bid S _ ν a w (fun q d=>s q (by simp[Ñ,d])) e H (cG _);rw[vx d] at b;refine wpIn_seq (wpIn_wide.2 (wpIn_wide.1 (wpIn_mono b fun D j w' ha=>?_)));obtain⟨ν',i,h1,h2,R,O,o⟩:=ha
  cases D with
  |normal=>exact peelN d B C J u A N c i ν' j w' M (fun q d=>s q (by simp[Ñ,d])) o h1 fun m I G t V U T=>v m I G t V (h2.trans U (bX _)) T
  |_=>exact absurd o (A _ _ (by simp))
def Ev.own {m:Nat} {ν ν':Nat->Value} {h h':y5 Blk} {w W i:World} {row:x9 Nat} (e:Ev m ν h w ν' h' W) (c:W.grownBy i row) (j:∀r,row=some r->w.heap.size<=r):Ev m ν h w ν' h' i :=
 ⟨c.os.trans e.os,c.tape.trans e.tape,c.output.trans e.output,cg e.size c.size,fun b hb d=>⟨(c.block b (cf hb e.size) fun o=>by have:=j b o.symm; omega).trans (e.keep b hb d).1,(e.keep b hb d).2⟩,e.blk⟩
end
end Go.Am
end

noncomputable section
namespace Go.Am
variable [Globs]
structure Mh (P:Program) (clo:Nat) (F:ByteArray->y5 ByteArray):Prop where
 ok:∀(s:ByteArray) (l b0:Nat) (I:y5 ByteArray->World->Prop) (Ix:World->Prop) (w:World),Ú s.size=true ->
  (∀rest W,I rest W->Globs.Φ W)->(∀W,Ix W->Globs.Φ W)->¬b0<Globs.n ->
  (∀rest W W' v,I rest W->W.heap.size<=W'.heap.size->(∀b,b<W.heap.size->b≠b0->W'.heap[b]?=W.heap[b]?\/(w.heap.size<=b/\∃ds:x9 (y5 Deferred),W.heap[b]?=some (.deferred ds)))->(∃te,W'.heap[b0]?=some (.cells #[v] te (0,0)))->W'.os=W.os->W'.tape=W.tape->W'.output=W.output->I rest W') ->
  (∀W W' v,Ix W->W.heap.size<=W'.heap.size->(∀b,b<W.heap.size->b≠b0->W'.heap[b]?=W.heap[b]?\/(w.heap.size<=b/\∃ds:x9 (y5 Deferred),W.heap[b]?=some (.deferred ds)))->(∃te,W'.heap[b0]?=some (.cells #[v] te (0,0)))->W'.os=W.os->W'.tape=W.tape->W'.output=W.output->Ix W') ->
  (∀y rest W v,I (y::rest) W->(∃te,W.heap[b0]?=some (.cells #[v] te (0,0)))->YieldAt Fence.wide 0 P l #[.string y] W fun e W'=>W.heap.size<=W'.heap.size/\W'.heap[b0]?=W.heap[b0]?/\(∀(k:Nat) (ds:x9 (y5 Deferred)),W.heap[k]?=some (.deferred ds)->W'.heap[k]?=some (.deferred ds))/\((e=.returned (.bool true)/\I rest W')\/(e=.returned (.bool false)/\Ix W'))) ->
  I (F s) w->(∃te,w.heap[b0]?=some (.cells #[.string s] te (0,0))) ->
  (∃fn c,P.funcs[clo]?=some fn/\fn.body=some c)/\CallsIn Fence.wide 0 P clo #[.func (.yield l) #[] #[],.pointer (some ⟨b0,0,none⟩)] w fun e W'=>∃u s',e=.returned u/\(∃te,W'.heap[b0]?=some (.cells #[.string s'] te (0,0)))/\(I [] W'\/Ix W')
structure Ke where
 path:y5 Nat
 fid:Nat
 bid:Nat
 pin:Nat
 cs:y5 Ty
 vs:y5 Ty
 zs:y5 Ty
 head:Tpl
 xt:Tpl
 clo:Nat
 F:ByteArray->y5 ByteArray
 step:Val (tyL cs)->Val (tyL vs)->ByteArray->x9 (Sum (Val (tyL vs)) (Val (tyL zs)))
section
variable {ρ:Type}
def MQ (E:Env ρ) (call:y5 Nat->Bool->Nat->y5 AV->y5 Blk->(AV->y5 Blk->x9 ρ)->x9 ρ) (fid:Nat) (path:y5 Nat) (pin bid:Nat) (it:LI) (S:St) (y:AV) (kn:Exit->St->x9 ρ):x9 ρ :=
 match it with
 |.rf _ ps a b=>match ps.toList with
  |[p]=>goC E call fid path pin bid a {t:=upd S.t p y,h:=S.h} fun e S=>match e with
   |.normal=>goC E call fid path pin bid b S kn
   |_=>none
  |_=>none
 |_=>none
def Ke.back (x:Ke) (kn:Val (tyL x.cs)->Val (tyL x.vs)->x9 ρ) (b:Val (tyL x.cs)->Val (tyL x.zs)->x9 ρ) (e:Exit) (S:St):x9 ρ:=match e with
 |.normal=>match lr x.head x.pin x.cs x.vs S with
  |some (p,v)=>kn p v
  |none=>none
 |.ret=>match lr x.xt x.pin x.cs x.zs S with
  |some (p,z)=>b p z
  |none=>none
 |_=>none
structure Ke.Ok (E:Env ρ) (x:Ke):Prop where
 one:(((ŵ E.P x.fid).elim [] (Ñ 0)).filter fun y=>Nat.beq y.1 x.bid).length=1
 it:Mh E.P x.clo x.F
 tm:∀p v v',(â x.head x.cs x.vs p v').t=(â x.head x.cs x.vs p v).t
 tx:∀p v z,(â x.xt x.cs x.zs p z).t=(â x.head x.cs x.vs p v).t
 len:x.pin<=x.xt.heap.length
 stab:∀p v,(â x.head x.cs x.vs p v).t.all (st3 x.pin)=true
 law:∀p v y (kn:Val (tyL x.cs)->Val (tyL x.vs)->x9 ρ) (kx:Val (tyL x.cs)->Val (tyL x.zs)->x9 ρ),MQ E (ŭ E (10-x.path.length / 2)) x.fid x.path x.pin x.bid (w7 (ŵ E.P x.fid) x.bid) (â x.head x.cs x.vs p v) (.str y) (x.back kn kx)=Ã (x.step p v y) (acN (kn p) (kx p))
def acp (id pin:Nat) (S:St):St:=bif Nat.blt id pin then {t:=S.t,h:=ã S.h id (.cells [.any])} else S
def rngX (x:Ke) (m:Nat) (g:AV) (S:St) (K:Exit->St->x9 ρ):x9 ρ :=
 match Nat.ble m x.pin with
 |true=>match g with
  |.fn (.func c) [] [.box id 0]=>match Nat.beq c x.clo with
   |true=>match lkB S.h id with
    |.cells [.str s]=>match Ú s.size&&(ã S.h id .dead).all (nrB id) with
     |true=>match lr x.head x.pin x.cs x.vs {t:=S.t.map (clr id),h:=ã S.h id .dead} with
      |some (p,v)=>Zy (x.step p) (x.F s) v (fun v=>K .normal (acp id x.pin (â x.head x.cs x.vs p v))) (fun z=>K .ret (acp id x.pin (â x.xt x.cs x.zs p z)))
      |none=>none
     |false=>none
    |_=>none
   |false=>none
  |_=>none
 |false=>none
structure RS (g:É) (pin b0:Nat) (ν:Nat->Value) (h:y5 Blk) (w:World) (ν1:Nat->Value) (h1:y5 Blk) (a:Act) (t1:y5 AV) (W1:World) (rc:LoopState->x9 Code->Loop) (l:Nat) (S:St) (ls:LoopState) (pe:x9 Code) (W:World):Prop where
 os:W.os=w.os
 tape:W.tape=w.tape
 output:W.output=w.output
 size:W1.heap.size<=W.heap.size
 nd:∀(k:Nat) (o:Obj),W1.heap[k]?=some o->CD o=false->k≠l->W.heap[k]?=some o
 rcd:W.heap[l]?=some (.loop (rc ls pe))
 box:∃v te,W.heap[b0]?=some (.cells #[v] te (0,0))
 keep:∀b,b<w.heap.size->¬mq ν h b->W.heap[b]?=w.heap[b]?
 ex:∃ν':Nat->Value,@HR _ (g.re (sM g b0) [] none 0) ν' S.h W /\
  (∀i,@VR _ (g.re (sM g b0) [] none 0) ν' S.h W (lk t1 i) (a.tmps.getD i undef)) /\
  (∀b,b<w.heap.size->¬mq ν h b->¬mq ν' S.h b) /\
  (∀id,id<pin->(lkB h1 id).next ν1 ν' id (lkB S.h id))/\Dd pin h1 S.h
section
variable {g:É} {x:Ke} {pin b0:Nat} {ν:Nat->Value} {h:y5 Blk} {w:World} {p:Val (tyL x.cs)} {Kn:Val (tyL x.vs)->x9 ρ} {Kx:Val (tyL x.zs)->x9 ρ} {r:ρ} {ν1:Nat->Value} {h1:y5 Blk} {a:Act} {t1:y5 AV} {W1:World} {rc:LoopState->x9 Code->Loop} {l:Nat}
def RS.step {S:St} {ls:LoopState} {pe:x9 Code} {W s:World} {v:Value} (t:mq ν h b0) (hlw:w.heap.size<=l) (A:b0<w.heap.size) (Y:∃c e,w.heap[b0]?=some (.cells c e (0,0))) (Z:∀b,b<w.heap.size->W1.heap[b]?=w.heap[b]?) (V:¬b0<Globs.n) (H:RS g pin b0 ν h w ν1 h1 a t1 W1 rc l S ls pe W) (N:W.heap.size<=s.heap.size) (z:g.B<=W1.heap.size) (y:l<W1.heap.size) (hwW1:w.heap.size<=W1.heap.size) (hk:∀b,b<W.heap.size->b≠b0->s.heap[b]?=W.heap[b]?\/(W1.heap.size<=b/\∃ds:x9 (y5 Deferred),W.heap[b]?=some (.deferred ds))) (hb:∃te,s.heap[b0]?=some (.cells #[v] te (0,0))) (C:s.os=W.os) (h2:s.tape=W.tape) (h3:s.output=W.output):RS g pin b0 ν h w ν1 h1 a t1 W1 rc l S ls pe s:=by
 obtain⟨e1,e2,e3,e4,e5,e6,⟨v0,te0,e7⟩,e8,ν',E,q5,q6,q7,q8⟩:=H
 have j:∀(b:Nat) (o:Obj),W.heap[b]?=some o->b≠b0->(b<W1.heap.size\/CD o=true)->s.heap[b]?=some o:=fun b o d R O=>by
  rcases hk b (Ù d) R with q|⟨J,ds,I⟩
  ·exact q.trans d
  ·rcases O with q|q
   ·omega
   ·rw[I] at d; cases d; cases q
 have KG:gu (g.re (sM g b0) [] none 0) ν' S.h W (sM g b0) s:=by
  refine⟨C,h2,h3,N,fun b _ G L=>G (.inr L),fun b o d hd L=>j b o d (fun e=>?_) (.inr hd),fun b o d hd T=>j b o d (fun e=>?_) (.inl (cf T z)),fun K b hb=>?_⟩
  rotate_left 2
  ·obtain⟨o,J,I⟩:=Globs.dat W K b hb;rw[J]; exact j b o J (fun e=>V (e▸hb)) (.inr I)
  ·subst e;obtain⟨i,hi,u⟩:=L (.inr (.inr rfl));exact @HR.ghne _ (g.re (sM g b) [] none 0) _ _ _ E i b hi u (.inr rfl)
  ·subst e; rw[e7] at d; cases d; cases hd
 refine⟨C.trans e1,h2.trans e2,h3.trans e3,cg e4 N,fun k o m d U=>j k o (e5 k o m d U) (fun e=>?_) (.inl (Ù m)),j l _ e6 (fun e=>?_) (.inl y),⟨v,hb⟩,fun b X G=>?_,ν',?_,fun i=>?_,q6,q7,q8⟩
 ·subst e;obtain⟨c,e,hc⟩:=Y;rw[Z k A,hc] at m; cases m; cases d
 ·subst e; rw[e7] at e6; cases e6
 ·rcases hk b (by omega) (fun e=>G (e▸t)) with q|⟨q,_⟩
  ·exact q.trans (e8 b X G)
  ·omega
 ·exact HR.step (g:=g.re (sM g b0) [] none 0) (D:=[]) (Q:=none) (M:=0) KG (fun b hb=>cf (@HR.ghlt _ (g.re (sM g b0) [] none 0) _ _ _ E b hb) N) (fun b ⟨i,hi,u⟩ hb=>@HR.ghne _ (g.re (sM g b0) [] none 0) _ _ _ E i b hi u hb) E
 ·exact VR.step (g:=g.re (sM g b0) [] none 0) (D:=[]) (Q:=none) (M:=0) KG (q5 i)
def atQ {x:Ke} (p:Val (tyL x.cs)) {α:Type} (k:α->x9 ρ) (b:Val (tyL x.cs)) (v:α):x9 ρ:=open Classical in if b=p then k v else none
def TB {x:Ke} (p:Val (tyL x.cs)) {α:Type} (k:α->x9 ρ):atQ p k p=k:=by
 funext v; unfold atQ; rw[if_pos rfl]
def TA {x:Ke} {p b:Val (tyL x.cs)} {α:Type} {k:α->x9 ρ} {v:α} {r:ρ} (h:atQ p k b v=some r):b=p/\k v=some r:=by
 unfold atQ at h
 split at h
 ·exact⟨‹_›,h⟩
 ·cases h
def RS.round {E:Env ρ} {N:Nat} {call:y5 Nat->Bool->Nat->y5 AV->y5 Blk->(AV->y5 Blk->x9 ρ)->x9 ρ} (hEnv:∀[É],Ι E->gN E N call) (hDraw:∀[É],gN E N call->kd E N call) (U:x.path.length+2=N) (hy:@Ι _ g ρ E)
 {gop:Operand} {ps:Array Tmp} {A Bd:Code} {p0:Tmp} (hps:ps.toList=[p0]) (hL:∀[É],Ι E->∀z∈Ñ x.bid A++Ñ x.bid Bd,iy E x.path x.fid z.1 z.2)
 (htm:∀p v v',(â x.head x.cs x.vs p v').t=(â x.head x.cs x.vs p v).t) (hst:∀p v,(â x.head x.cs x.vs p v).t.all (st3 x.pin)=true)
 (hlen:∀v,x.pin<=(â x.head x.cs x.vs p v).h.length)
 (law:∀p v y (kn:Val (tyL x.cs)->Val (tyL x.vs)->x9 ρ) (kx:Val (tyL x.cs)->Val (tyL x.zs)->x9 ρ),MQ E call x.fid x.path x.pin x.bid (.rf gop ps A Bd) (â x.head x.cs x.vs p v) (.str y) (x.back kn kx)=Ã (x.step p v y) (acN (kn p) (kx p)))
 {C:FuncId} {dn:Nat} (hrc:rc=fun ls pe=>{state:=ls,pending:=pe,fn:=C,tmps:=a.tmps,params:=ps,assign:=A,body:=Bd,defers:=dn}) (hlive:mq ν h b0) (hlw:w.heap.size<=l) (hlW1:l<W1.heap.size) (hwW1:w.heap.size<=W1.heap.size) (hgBw:g.B<=w.heap.size) (hb0w:b0<w.heap.size) (ht1:∃v,t1=(â x.head x.cs x.vs p v).t) (htl:t1.length<=a.tmps.size)
 {y:ByteArray} {suf:y5 ByteArray} {v':Val (tyL x.vs)} {W:World} (hrun0:Zy (x.step p) (y::suf) v' Kn Kx=some r) (H:RS g x.pin b0 ν h w ν1 h1 a t1 W1 rc l (â x.head x.cs x.vs p v') .ready none W) :
 YieldAt Fence.wide 0 E.P l #[.string y] W fun e W'=>W.heap.size<=W'.heap.size/\W'.heap[b0]?=W.heap[b0]?/\(∀(k:Nat) (ds:x9 (y5 Deferred)),W.heap[k]?=some (.deferred ds)->W'.heap[k]?=some (.deferred ds))/\((e=.returned (.bool true)/\∃v2,Zy (x.step p) suf v2 Kn Kx=some r/\RS g x.pin b0 ν h w ν1 h1 a t1 W1 rc l (â x.head x.cs x.vs p v2) .ready none W')\/(e=.returned (.bool false)/\∃z,Kx z=some r/\RS g x.pin b0 ν h w ν1 h1 a t1 W1 rc l (â x.xt x.cs x.zs p z) .done (some .ret) W')):=by
 obtain⟨e1,e2,e3,e4,e5,hl,⟨bv,bte,hbox⟩,e8,ν',q4,q5,q6,q7,q8⟩:=H;subst hrc;simp only at hl;obtain⟨GX,X⟩:∃GX:Nat->Prop,GX=sM g b0:=⟨_,rfl⟩;rw[<-X] at q4 q5
 letI gr:É:=g.re GX [] (some l) W.heap.size
 have hyr:Ι E:=hy;have hE:=hEnv hyr;have hD:=hDraw hE;obtain⟨S,hS⟩:∃S,S=â x.head x.cs x.vs p v':=⟨_,rfl⟩
 have hSt:S.t=t1:=by obtain⟨v0,h0⟩:=ht1; rw[hS,h0]; exact htm p v0 v'
 have hlen':x.pin<=S.h.length:=by rw[hS]; exact hlen v'
 rw[<-hS] at q4 q5 q6 q7 q8;have H0:HR ν' S.h W:=HR.re (g:=g.re GX [] none 0) q4
 have V0:∀i,VR ν' S.h W (lk S.t i) (a.tmps.getD i undef):=fun i=>by rw[hSt]; exact q5 i
 have hu:VR ν' S.h W (.str y) (.string y):=rfl;have fr0:∀(W2:World) (r2:Loop),W2.heap[l]?=some (.loop r2)->W.heap.size<=W2.heap.size->Fr W2 []:=fun W2 r2 h2 h3=>⟨⟨[],rfl,dT,fun _ q=>(by cases q)⟩,fun l' e=>by cases e; exact⟨r2,h2⟩,cg hgBw (cg hwW1 e4),h3⟩
 have sim0:Sim ν' {t:=upd S.t p0 (.str y),h:=S.h} {tmps:=a.tmps.setIfInBounds p0 (.string y),defers:=[]} W:=by
  have s0:Sim ν' S {tmps:=a.tmps,defers:=[]} W:=⟨fr0 W _ hl (bX _),by rw[hSt]; exact htl,V0,H0⟩;exact s0.put (Ev.refl _ _ _ _) H0 (some p0) hu
 have hnb0:¬mq ν' S.h b0:=fun⟨i,hi,hbi⟩=>H0.ghne i b0 hi hbi (by show GX b0; rw[X]; exact .inr rfl)
 -- the law
 have O:=law p v' y (atQ p fun v=>Zy (x.step p) suf v Kn Kx) (atQ p Kx);rw[TB,TB,show Ã (x.step p v' y) (acN (fun v=>Zy (x.step p) suf v Kn Kx) Kx)=some r from hrun0,<-hS] at O;unfold MQ at O;simp only[hps] at O;have hLr:∀z∈Ñ x.bid A++Ñ x.bid Bd,iy E x.path x.fid z.1 z.2:=hL hyr;have hgo:=kL hE U A x.bid _ _ ν' _ W (fun _=>hD) (fun z hz=>hLr z (List.mem_append_left _ hz)) O sim0 hlen'
 have htm0:((ps.zip #[Value.string y]).foldl (fun t (p,v)=>t.setIfInBounds p v) a.tmps)=a.tmps.setIfInBounds p0 (.string y):=by
  have:ps=#[p0]:=by rw[<-cD,hps]
  rw[this]; simp
 refine ⟨_, _, _, _, run_yield hl (by have : ps = #[p0] := by (rw [<- cD, hps])
                                      rw[this]; rfl),?_⟩
 rw[htm0];refine roundIn_of_wpIn (F:=Fence.wide) trivial (wpIn_mono (show A.wpIn (Fence.wide.inRound l) 0 E.P _ _ W from hgo) fun e aA WA hA=>?_);obtain⟨νA,SA,sA,c,lnA,ddA,kA⟩:=hA
 cases e with
 |normal =>
  simp only at kA;have V:WA.heap[l]?=some (.loop _):=H0.nd c l _ hl rfl;refine⟨_,run_beginRound V rfl,?_⟩;have d:gu gr νA SA.h WA gr.G (WA.putObj l (.loop {state:=.busy,pending:=none,fn:=C,tmps:=a.tmps,params:=ps,assign:=A,body:=Bd,defers:=dn})):=gu.nds rfl rfl rfl (by simp) fun b o hb hd=>ŏ V b o hb (hd.imp id fun hlt=>by have:b<g.B:=hlt; omega);obtain⟨Wb,hWb⟩:∃Wb,Wb=WA.putObj l (.loop {state:=.busy,pending:=none,fn:=C,tmps:=a.tmps,params:=ps,assign:=A,body:=Bd,defers:=dn}):=⟨_,rfl⟩;rw[<-hWb] at d ⊢
  have hlb:Wb.heap[l]?=some (.loop {state:=.busy,pending:=none,fn:=C,tmps:=a.tmps,params:=ps,assign:=A,body:=Bd,defers:=dn}):=by rw[hWb]; exact World.putObj_heap_same (Ù V)
  have sB:Sim νA SA aA Wb:=by
   refine⟨?_,sA.len,fun i=>VR.step (g:=gr) (D:=[]) (Q:=some l) (M:=W.heap.size) d (sA.tmps i),HR.step (g:=gr) (D:=[]) (Q:=some l) (M:=W.heap.size) d (fun b hb=>cf (sA.heap.ghlt b hb) d.size) (fun b ⟨i,hi,hb⟩=>sA.heap.ghne i b hi hb) sA.heap⟩;obtain⟨⟨ms,m1,m2,m3⟩,_,m4,m5⟩:=sA.defers;refine⟨⟨ms,m1,m2,fun k hk=>⟨?_,(m3 k hk).2⟩⟩,fun l' e=>by cases e; exact⟨_,hlb⟩,m4,cg m5 d.size⟩;rw[hWb];exact ŏ V k _ (m3 k hk).1 (.inr fun e=>by have hk0:=(m3 k hk).1; rw[e,V] at hk0; cases hk0)
  have hgo2:=kL hE U Bd x.bid _ _ νA _ Wb (fun _=>hD) (fun z hz=>hLr z (cJ _ hz)) kA sB lnA;refine wpIn_mono (show Bd.wpIn (Fence.wide.inRound l) 0 E.P _ _ Wb from hgo2) fun e aC Z hC=>?_;obtain⟨νC,SC,sC,s,lnC,ddC,K⟩:=hC;have R:Z.heap[l]?=some (.loop _):=sB.heap.nd s l _ hlb rfl;have hWs:W.heap.size<=Z.heap.size:=cg c.size (cg d.size s.size)
  -- the round's end
  have fin:∀(L:x9 Code) (ls:LoopState) (SD:St) (j:Nat->Value),Sim j SD aC Z->Ev x.pin νC SC.h Z j SD.h Z->Dd x.pin SC.h SD.h ->
   ∀J,J=Z.putObj l (.loop {state:=ls,pending:=L,fn:=C,tmps:=a.tmps,params:=ps,assign:=A,body:=Bd,defers:=dn}) ->
   W.heap.size<=J.heap.size/\J.heap[b0]?=W.heap[b0]?/\(∀(k:Nat) (ds:x9 (y5 Deferred)),W.heap[k]?=some (.deferred ds)->J.heap[k]?=some (.deferred ds))/\RS g x.pin b0 ν h w ν1 h1 a t1 W1 (fun ls pe=>{state:=ls,pending:=pe,fn:=C,tmps:=a.tmps,params:=ps,assign:=A,body:=Bd,defers:=dn}) l SD ls L J:=by
   intro L ls SD j sD I Y J m
   have s4:J.heap.size=Z.heap.size:=by rw[m]; simp
   have h4l:J.heap[l]?=some (.loop {state:=ls,pending:=L,fn:=C,tmps:=a.tmps,params:=ps,assign:=A,body:=Bd,defers:=dn}):=by rw[m]; exact World.putObj_heap_same (Ù R)
   have h4o:∀b,b≠l->J.heap[b]?=Z.heap[b]?:=fun b hb=>by rw[m]; exact World.putObj_heap_other hb
   have hbo:∀b,b≠l->Wb.heap[b]?=WA.heap[b]?:=fun b hb=>by rw[hWb]; exact World.putObj_heap_other hb
   have u:∀b,b<W.heap.size->b≠l->¬mq ν' S.h b->J.heap[b]?=W.heap[b]?/\¬mq j SD.h b:=fun b hb hbl hn=>by
    obtain⟨k1,k2⟩:=c.keep b hb hn;obtain⟨k3,k4⟩:=s.keep b (cf hb (cg c.size d.size)) k2;obtain⟨k5,k6⟩:=I.keep b (cf hb hWs) k4;exact⟨by rw[h4o b hbl,k3,hbo b hbl,k1],k6⟩
   have o4:J.os=W.os/\J.tape=W.tape/\J.output=W.output:=by
    rw[m];exact⟨s.os.trans (d.os.trans c.os),s.tape.trans (d.tape.trans c.tape),s.output.trans (d.output.trans c.output)⟩
   have KG4:gu gr j SD.h Z (sM g b0) J:=by
    refine⟨by rw[m]; rfl,by rw[m]; rfl,by rw[m]; rfl,ez s4.symm,fun b hb hn hx=>hn (.inr ?_),fun b o hb ho _=>?_,fun b o hb ho hlt=>?_,fun hΦ b hb=>by rw[m]; exact D8 R hΦ b hb⟩
    ·show GX b;rw[X]; exact hx
    ·rw[m]; exact ŏ R b o hb (.inl ho)
    ·rw[m]; exact ŏ R b o hb (.inr fun e=>by have:b<g.B:=hlt; omega)
   have hb04:J.heap[b0]?=W.heap[b0]?:=(u b0 (Ù hbox) (by omega) hnb0).1;refine⟨by rw[s4]; exact hWs,hb04,fun k ds hk=>?_,⟨o4.1.trans e1,o4.2.1.trans e2,o4.2.2.trans e3,cg e4 (by rw[s4]; exact hWs),fun k o hk ho T=>?_,h4l,⟨bv,bte,hb04.trans hbox⟩,fun b hb hn=>?_,j,?_,fun i=>?_,fun b hb hn=>?_,fun id hid=>?_,?_⟩⟩
   ·have T:k≠l:=fun e=>by rw[e,hl] at hk; cases hk
    rw[h4o k T];have k1:=H0.nd c k _ hk rfl;have k2:Wb.heap[k]?=some _:=(hbo k T).trans k1;exact sB.heap.nd s k _ k2 rfl
   ·rw[h4o k T];have k1:=H0.nd c k o (e5 k o hk ho T) ho;have k2:Wb.heap[k]?=some o:=(hbo k T).trans k1;exact sB.heap.nd s k o k2 ho
   ·exact(u b (by omega) (by omega) (q6 b hb hn)).1.trans (e8 b hb hn)
   ·exact HR.step (g:=gr) (D:=[]) (Q:=none) (M:=0) KG4 (fun b hb=>by have:=sD.heap.ghlt b (by show GX b; rw[X]; exact hb); omega) (fun b ⟨i,hi,hbi⟩ hb=>sD.heap.ghne i b hi hbi (by show GX b; rw[X]; exact hb)) sD.heap
   ·have hs3:st3 x.pin (lk t1 i)=true:=by
     rw[<-hSt,hS];exact lk_all rfl _ (hst p v') i
    have v1:VR ν' S.h W (lk t1 i) (a.tmps.getD i undef):=by rw[<-hSt]; exact V0 i
    have v2:=VR.stab c hs3 v1;have v3:VR νA SA.h Wb (lk t1 i) (a.tmps.getD i undef):=VR.step (g:=gr) (D:=[]) (Q:=some l) (M:=W.heap.size) d v2;have v4:=VR.stab I hs3 (VR.stab s hs3 v3);exact VR.step (g:=gr) (D:=[]) (Q:=none) (M:=0) KG4 v4
   ·exact(u b (by omega) (by omega) (q6 b hb hn)).2
   ·exact Blk.next_trans (Blk.next_trans (Blk.next_trans (q7 id hid) (c.blk id hid)) (s.blk id hid)) (I.blk id hid)
   ·exact((q8.trans ddA (bX _)).trans ddC (bX _)).trans Y (bX _)
  cases e with
  |normal =>
   simp only[Ke.back] at K
   split at K<;>try (cases K; done)
   rename_i p' v'' hm;obtain⟨hp',K⟩:=TA K;subst hp';obtain⟨j,sD,I,lnD,Y⟩:=jI _ _ _ _ _ _ _ νC aC Z hm sC;obtain⟨f1,f2,f4,f3⟩:=fin none .ready _ j sD I Y _ rfl;exact⟨_,_,run_endRound (P:=E.P) none R,f1,f2,f4,.inl ⟨rfl,v'',K,f3⟩⟩
  |ret =>
   simp only[Ke.back] at K
   split at K<;>try (cases K; done)
   rename_i p' z hm;obtain⟨hp',kC2⟩:=TA (k:=Kx) (x:=x) K;subst hp';obtain⟨j,sD,I,lnD,Y⟩:=jI _ _ _ _ _ _ _ νC aC Z hm sC;obtain⟨f1,f2,f4,f3⟩:=fin (some .ret) .done _ j sD I Y _ rfl;exact⟨_,_,run_endRound (P:=E.P) (some .ret) R,f1,f2,f4,.inr ⟨rfl,z,kC2,f3⟩⟩
  |exit id=>cases K
  |goto l=>cases K
  |panic ch=>cases K
  |outgrown=>cases K
 |exit id=>cases kA
 |goto l=>cases kA
 |ret=>cases kA
 |panic ch=>cases kA
 |outgrown=>cases kA
def BZ (T:Tpl) (cs vs:y5 Ty) (p:Val (tyL cs)) (v:Val (tyL vs)):(â T cs vs p v).h.length=T.heap.length:=by
 letI:É:=Gh fun _=>False
 unfold â;exact oT _ _
def Xx {E:Env ρ} {N:Nat} {call:y5 Nat->Bool->Nat->y5 AV->y5 Blk->(AV->y5 Blk->x9 ρ)->x9 ρ} (hEnv:∀[É],Ι E->gN E N call) (hDraw:∀[É],gN E N call->kd E N call) (hpath:x.path.length+2=N) (hy:@Ι _ g ρ E)
 {gop:Operand} {ps:Array Tmp} {A Bd:Code} (hL:∀[É],Ι E->∀z∈Ñ x.bid A++Ñ x.bid Bd,iy E x.path x.fid z.1 z.2)
 (hit:Mh E.P x.clo x.F) (htm:∀p v v',(â x.head x.cs x.vs p v').t=(â x.head x.cs x.vs p v).t) (htx:∀p v z,(â x.xt x.cs x.zs p z).t=(â x.head x.cs x.vs p v).t) (hlx:x.pin<=x.xt.heap.length) (hst:∀p v,(â x.head x.cs x.vs p v).t.all (st3 x.pin)=true)
 (law:∀p v y (kn:Val (tyL x.cs)->Val (tyL x.vs)->x9 ρ) (kx:Val (tyL x.cs)->Val (tyL x.zs)->x9 ρ),MQ E call x.fid x.path x.pin x.bid (.rf gop ps A Bd) (â x.head x.cs x.vs p v) (.str y) (x.back kn kx)=Ã (x.step p v y) (acN (kn p) (kx p))) (hps:∃p0,ps.toList=[p0])
 (hplain : ∀ (f : Nat) (fn : Func), E.P.funcs[f]? = some fn -> (fn.name == "runtime.NumGoroutine") = false)
 {m:Nat} {S:St} {K:Exit->St->x9 ρ} {r:ρ} {ν:Nat->Value} {a:Act} {w:World} (e:rngX x m (ev S.t gop) S K=some r) (H:@Sim _ g ν S a w) (hm:m<=S.h.length) :
 (Code.rangeFunc gop ps A Bd).wpIn (@fen _ g) 0 E.P (@Pw _ g ρ m ν S.h w K r) a w:=by
 obtain⟨p0,hps⟩:=hps;unfold rngX at e
 split at e<;>try (cases e; done)
 rename_i hmp;have hmp:m<=x.pin:=dl hmp
 split at e<;>try (cases e; done)
 rename_i c id hg
 split at e<;>try (cases e; done)
 rename_i hcm;obtain rfl:=cd hcm
 split at e<;>try (cases e; done)
 rename_i s hl
 split at e<;>try (cases e; done)
 rename_i hnr;simp only[bZ] at hnr;obtain⟨hsz,hnr⟩:=hnr
 split at e<;>try (cases e; done)
 rename_i p v hmt
 -- the iterator
 have hH:=@Sim.heap _ g _ _ _ _ H;have hbid:=@HR.blk _ g _ _ _ hH id;rw[hl] at hbid;obtain⟨b0,cb,te,hν,hb0,hcells⟩:=hbid;obtain⟨cu,hcu1,hcu2⟩:=hcells.one
 have hcb:cb=#[.string s]:=by
  have:cu=.string s:=hcu2.1;rw[<-cD,hcu1,this]
 rw[hcb] at hb0;have hgv:@VR _ g ν S.h w (ev S.t gop) (a.eval gop):=@ċ _ g _ _ _ _ H gop;rw[hg] at hgv;obtain⟨fs,cps,hge,hfs,hcps⟩:=hgv
 have hfs0:fs=#[]:=by rw[<-cD]; exact hfs.nil_left
 obtain⟨uc,hu1,hu2⟩:=hcps.one
 have huc:uc=.pointer (some ⟨b0,0,none⟩):=by
  obtain⟨_,b',_,q1,q2⟩:=hu2;rw[hν] at q1; cases q1; exact q2
 have hcps0:cps=#[.pointer (some ⟨b0,0,none⟩)]:=by rw[<-cD,hu1,huc]
 rw[hfs0,hcps0] at hge
 -- the box is let go
 obtain⟨h0,hh0⟩:∃h0,h0=ã S.h id .dead:=⟨_,rfl⟩;have hid:id<S.h.length:=ĭ hl (by simp)
 letI g1:É:=g.re (sM g b0) g.D g.Q g.M
 have H1:HR ν h0 w:=by rw[hh0]; exact Yf hl hν hnr hH
 have sim1:Sim ν {t:=S.t.map (clr id),h:=h0} a w:=by
  refine⟨@Sim.defers _ g _ _ _ _ H,by rw[List.length_map]; exact @Sim.len _ g _ _ _ _ H,fun i=>?_,H1⟩;show VR ν h0 w (lk (S.t.map (clr id)) i) _;rw[Xs rfl,hh0];unfold clr
  split
  ·exact Ye hl hν ‹_› (@Sim.tmps _ g _ _ _ _ H i)
  ·trivial
 rw[<-hh0] at hmt;obtain⟨ν1,sim2,ev1,hp1,dd1⟩:=jI _ _ _ _ _ _ _ ν a w hmt sim1;obtain⟨S1,hS1⟩:∃S1,S1=â x.head x.cs x.vs p v:=⟨_,rfl⟩;rw[<-hS1] at sim2 ev1 hp1 dd1
 have hlen:∀v,x.pin<=(â x.head x.cs x.vs p v).h.length:=fun v'=>by rw[BZ,<-BZ x.head x.cs x.vs p v,<-hS1]; exact hp1
 have L01:∀b,mq ν1 S1.h b->mq ν h0 b:=fun b hb=>Classical.byContradiction fun hn=>(ev1.keep b (sim2.heap.lt hb) hn).2 hb
 have L0:∀b,mq ν h0 b->mq ν S.h b/\b≠b0:=fun b ⟨j,hj,ho⟩=>by
  rw[hh0,oR] at hj
  split at hj
  ·cases hj
  ·rename_i hne;refine⟨⟨j,hj,ho⟩,fun eb=>hne ⟨?_,hid⟩⟩;exact @HR.inj _ g _ _ _ hH j id b hj (by rw[hl]; rfl) ho (by rw[hν,eb]; rfl)
 have hb0L:mq ν S.h b0:=⟨id,by rw[hl]; rfl,by rw[hν]; rfl⟩;have hb0w:b0<w.heap.size:=Ù hb0
 -- what is known of the frame
 have hfr:=@Sim.defers _ g _ _ _ _ H;have hgBw:g.B<=w.heap.size:=cg hfr.2.2.1 hfr.2.2.2;refine wpIn_rangeFunc ?_;intro fn hfn
 -- the record
 obtain⟨l,marks,dn,W1,henter,hl1,hlw,hW1s,hW1o,hW1d,hmarks⟩:∃(l:Nat) (marks:y5 Nat) (dn:Nat) (W1:World),(Instr.enterLoop fn a.tmps ps A Bd (@fen _ g).round).run E.P w=.ok (l,marks.map mk1) W1 /\
  W1.heap[l]?=some (.loop {state:=.ready,pending:=none,fn:=fn,tmps:=a.tmps,params:=ps,assign:=A,body:=Bd,defers:=dn})/\w.heap.size<=l/\w.heap.size<=W1.heap.size/\(W1.os=w.os/\W1.tape=w.tape/\W1.output=w.output)/\(∀b,b<w.heap.size->W1.heap[b]?=w.heap[b]?) /\
  (marks.Nodup/\∀k∈marks,W1.heap[k]?=some (.deferred (some []))/\w.heap.size<=k):=by
  have hro:(@fen _ g).round=g.Q:=rfl;rw[hro]
  cases hQ:g.Q with
  |none =>
   refine⟨w.heap.size+1,[w.heap.size],w.heap.size,_,run_enterLoop_outer _ _ _ _ _,?_,by omega,by simp; omega,⟨rfl,rfl,rfl⟩,fun b hb=>?_,by simp,fun k hk=>?_⟩
   ·have:=World.alloc_heap_new (w.alloc (.deferred (some []))) (.loop {state:=.ready,pending:=none,fn:=fn,tmps:=a.tmps,params:=ps,assign:=A,body:=Bd,defers:=w.heap.size})
    rwa [World.size_alloc] at this
   ·rw[RowKit.Below.heap_alloc _ _ _ (by simp; omega),RowKit.Below.heap_alloc _ _ _ hb]
   ·rw[ce.1 hk];exact⟨(RowKit.Below.heap_alloc _ _ _ (by simp)).trans (World.alloc_heap_new w _),bX _⟩
  |some l0 =>
   obtain⟨r0,hr0⟩:=hfr.2.1 l0 hQ;refine⟨w.heap.size,[],r0.defers,_,run_enterLoop_inner hr0 _ _ _ _ _,World.alloc_heap_new _ _,bX _,by simp,⟨rfl,rfl,rfl⟩,fun b hb=>RowKit.Below.heap_alloc _ _ _ hb,dT,fun k hk=>by cases hk⟩
 obtain⟨hmn,hmk⟩:=hmarks;have hlW1:l<W1.heap.size:=Ù hl1;have hold:∀(b:Nat) (o:Obj),w.heap[b]?=some o->W1.heap[b]?=some o:=fun b o hb=>(hW1d b (Ù hb)).trans hb;obtain⟨rc,hrc⟩:∃rc:LoopState->x9 Code->Loop,rc=fun ls pe=>{state:=ls,pending:=pe,fn:=fn,tmps:=a.tmps,params:=ps,assign:=A,body:=Bd,defers:=dn}:=⟨_,rfl⟩;obtain⟨Kn,hKn⟩:∃Kn:Val (tyL x.vs)->x9 ρ,Kn=fun v=>K .normal (acp id x.pin (â x.head x.cs x.vs p v)):=⟨_,rfl⟩;obtain⟨Kx,hKx⟩:∃Kx:Val (tyL x.zs)->x9 ρ,Kx=fun z=>K .ret (acp id x.pin (â x.xt x.cs x.zs p z)):=⟨_,rfl⟩;rw[<-hKn,<-hKx] at e;have htl:S1.t.length<=a.tmps.size:=sim2.len
 -- the loop's state at its start
 have hJ0:RS g x.pin b0 ν S.h w ν1 S1.h a S1.t W1 rc l S1 .ready none W1:=by
  have KG:gu g1 ν1 S1.h w (sM g b0) W1:=⟨hW1o.1,hW1o.2.1,hW1o.2.2,hW1s,fun b _ hn hx=>hn (.inr hx),fun b o hb _ _=>hold b o hb,fun b o hb _ _=>hold b o hb,fun hΦ b hb=>hW1d b (by obtain⟨o,h1,_⟩:=Globs.dat w hΦ b hb; exact Ù h1)⟩;refine⟨hW1o.1,hW1o.2.1,hW1o.2.2,bX _,fun _ _ q _ _=>q,by rw[hrc]; exact hl1,⟨_,_,hold _ _ hb0⟩,fun b hb _=>hW1d b hb,ν1,?_,fun i=>?_,fun b _ hn hL2=>hn (L0 b (L01 b hL2)).1,fun i _=>Blk.next_refl _ _ _,Dd.refl _ _⟩
  ·exact HR.step (g:=g1) (D:=[]) (Q:=none) (M:=0) KG (fun b hb=>cf (@HR.ghlt _ g1 _ _ _ (@Sim.heap _ g1 _ _ _ _ sim2) b hb) hW1s) (fun b ⟨i,hi,hbi⟩ hb=>@HR.ghne _ g1 _ _ _ (@Sim.heap _ g1 _ _ _ _ sim2) i b hi hbi hb) (@Sim.heap _ g1 _ _ _ _ sim2)
  ·exact VR.step (g:=g1) (D:=[]) (Q:=none) (M:=0) KG (@Sim.tmps _ g1 _ _ _ _ sim2 i)
 obtain⟨⟨gfn,gc,hgf,hgc⟩,hcall⟩:=hit.ok s l b0 (fun rest W=>∃v,Zy (x.step p) rest v Kn Kx=some r/\RS g x.pin b0 ν S.h w ν1 S1.h a S1.t W1 rc l (â x.head x.cs x.vs p v) .ready none W)
  (fun W=>∃z,Kx z=some r/\RS g x.pin b0 ν S.h w ν1 S1.h a S1.t W1 rc l (â x.xt x.cs x.zs p z) .done (some .ret) W) W1 hsz
  (fun rest W ⟨_,_,q2⟩=>by obtain⟨ν',q4,_⟩:=q2.ex; exact @HR.glob _ (g.re (sM g b0) [] none 0) _ _ _ q4) (fun W ⟨_,_,q2⟩=>by obtain⟨ν',q4,_⟩:=q2.ex; exact @HR.glob _ (g.re (sM g b0) [] none 0) _ _ _ q4) (fun q=>@HR.globL _ g _ _ _ hH b0 q hb0L)
  (fun rest W W' v ⟨v1,q1,q2⟩ hs hk hb h1 h2 h3=>⟨v1,q1,RS.step hb0L hlw hb0w ⟨_,_,hb0⟩ hW1d (fun q=>@HR.globL _ g _ _ _ hH b0 q hb0L) q2 hs (cg hgBw hW1s) hlW1 hW1s hk hb h1 h2 h3⟩)
  (fun W W' v ⟨v1,q1,q2⟩ hs hk hb h1 h2 h3=>⟨v1,q1,RS.step hb0L hlw hb0w ⟨_,_,hb0⟩ hW1d (fun q=>@HR.globL _ g _ _ _ hH b0 q hb0L) q2 hs (cg hgBw hW1s) hlW1 hW1s hk hb h1 h2 h3⟩)
  (fun y rest W v9 ⟨v1,q1,q2⟩ hb=>RS.round hEnv hDraw hpath hy hps hL htm hst hlen law hrc hb0L hlw hlW1 hW1s hgBw hb0w ⟨v,by rw[hS1]⟩ htl q1 q2)
  ⟨v,e,by rw[<-hS1]; exact hJ0⟩ ⟨_,hold _ _ hb0⟩
 refine⟨l,marks.map mk1,W1,{target:=.fn (.func x.clo) #[.pointer (some ⟨b0,0,none⟩)],args:=#[.func (.yield l) #[] #[]]},W1,x.clo,#[.func (.yield l) #[] #[],.pointer (some ⟨b0,0,none⟩)],W1,henter,?_,fun f' _=>trivial,?_,fun q=>(by cases q),?_⟩
 ·simp only[resolve,rangeCall,hge];simp[go_sem]
 ·simp[invoke,callFunc,Sem.run_bind,run_program,Result.andThen_ok,hgf,hgc,hplain x.clo gfn hgf];simpa using hplain x.clo gfn hgf
 refine CallsIn.mono (show CallsIn (@fen _ g) 0 E.P _ _ _ _ from hcall) fun en W2 hw=>?_;obtain⟨u,s',rfl,⟨te',hbox⟩,hor⟩:=hw
 -- what the loop leaves
 obtain⟨ex,Se,ls,pe,hke,hpe,hls,hSt,ple,hRS⟩:∃(ex:Exit) (Se:St) (ls:LoopState) (pe:x9 Code),K ex (acp id x.pin Se)=some r/\((pe=none/\ex=.normal)\/(pe=some .ret/\ex=.ret))/\ls≠.busy/\Se.t=S1.t/\x.pin<=Se.h.length/\RS g x.pin b0 ν S.h w ν1 S1.h a S1.t W1 rc l Se ls pe W2:=by
  rcases hor with⟨v1,q1,q2⟩|⟨z,q1,q2⟩
  ·rw[hKn] at q1;exact⟨.normal,_,.ready,none,q1,.inl ⟨rfl,rfl⟩,by simp,by rw[hS1]; exact htm p v v1,hlen v1,q2⟩
  ·rw[hKx] at q1;exact⟨.ret,_,.done,some .ret,q1,.inr ⟨rfl,rfl⟩,by simp,by rw[hS1]; exact htx p v z,by rw[BZ]; exact hlx,q2⟩
 obtain⟨j1,j2,j3,j4,j5,hl2,_,j8,νe,q4,q5,q6,q7,q8⟩:=hRS;obtain⟨W3,hW3⟩:∃W3,W3=W2.putObj l (.loop {rc ls pe with state:=.exhausted}):=⟨_,rfl⟩;have hend:=run_endLoop (P:=E.P) hl2 (by rw[hrc]; exact hls);rw[<-hW3,show(rc ls pe).pending=pe by rw[hrc]] at hend;refine⟨pe,W3,hend,?_⟩
 have aft:@Pw _ g ρ m ν S.h w K r ex {a with defers:=marks.map mk1++a.defers} W3:=by
  have s3:W3.heap.size=W2.heap.size:=by rw[hW3]; simp
  have h3o:∀b,b≠l->W3.heap[b]?=W2.heap[b]?:=fun b hb=>by rw[hW3]; exact World.putObj_heap_other hb
  have KG3:gu (g.re (sM g b0) [] none 0) νe Se.h W2 (sM g b0) W3:=by
   refine⟨by rw[hW3]; rfl,by rw[hW3]; rfl,by rw[hW3]; rfl,ez s3.symm,fun b _ hn hb=>hn (.inr hb),fun b o hb ho _=>?_,fun b o hb ho hlt=>?_,fun hΦ b hb=>by rw[hW3]; exact D8 hl2 hΦ b hb⟩
   ·rw[hW3]; exact ŏ hl2 b o hb (.inl ho)
   ·rw[hW3]; exact ŏ hl2 b o hb (.inr fun q=>by have:b<g.B:=hlt; omega)
  have H3:@HR _ (g.re (sM g b0) [] none 0) νe Se.h W3:=HR.step (g:=g.re (sM g b0) [] none 0) (D:=[]) (Q:=none) (M:=0) KG3 (fun b hb=>by have:=@HR.ghlt _ (g.re (sM g b0) [] none 0) _ _ _ q4 b hb; omega) (fun b ⟨i,hi,hbi⟩ hb=>@HR.ghne _ (g.re (sM g b0) [] none 0) _ _ _ q4 i b hi hbi hb) q4;have nd3:∀(k:Nat) (o:Obj),W1.heap[k]?=some o->CD o=false->k≠l->W3.heap[k]?=some o:=fun k o hk ho hkl=>(h3o k hkl).trans (j5 k o hk ho hkl)
  have V3:∀i,@VR _ (g.re (sM g b0) [] none 0) νe Se.h W3 (lk Se.t i) (a.tmps.getD i undef):=fun i=>by rw[hSt]; exact VR.step (g:=g.re (sM g b0) [] none 0) (D:=[]) (Q:=none) (M:=0) KG3 (q5 i)
  have hfr3:@Fr _ g W3 (marks.map mk1++a.defers):=by
   obtain⟨⟨ms,m1,m2,m3⟩,m4,m5,m6⟩:=hfr;have lt3:∀k∈ms,k<w.heap.size:=fun k hk=>Ù (m3 k hk).1;refine⟨⟨marks++ms,?_,?_,fun k hk=>?_⟩,fun l' hl'=>?_,m5,by omega⟩
   ·rw[m1,fu,cq]
   ·refine fX.2 ⟨hmn,m2,fun k1 h1 k2 h2 q=>?_⟩;have:=(hmk k1 h1).2;have:=lt3 k2 h2;omega
   ·rcases b8.1 hk with hk|hk
    ·obtain⟨z1,z2⟩:=hmk k hk;exact⟨nd3 k _ z1 rfl (fun q=>by rw[q,hl1] at z1; cases z1),cg m6 z2⟩
    ·exact⟨nd3 k _ (hold _ _ (m3 k hk).1) rfl (fun q=>by have:=lt3 k hk; omega),(m3 k hk).2⟩
   ·obtain⟨r',hr'⟩:=m4 l' hl';exact⟨r',nd3 l' _ (hold _ _ hr') rfl (fun q=>by have:=Ù hr'; omega)⟩
  have blk3:∀i,i<m->i≠id->(lkB S.h i).next ν νe i (lkB Se.h i):=fun i hi hne=>by
   have z1:lkB h0 i=lkB S.h i:=by rw[hh0]; exact Ì _ hne
   have z2:=ev1.blk i (cf hi hmp);rw[z1] at z2;exact Blk.next_trans z2 (q7 i (cf hi hmp))
  have dd3:∀j,j<m->lkB S.h j=.dead->j≠id/\lkB Se.h j=.dead:=fun j hj hd2=>by
   have hne:j≠id:=fun q=>by rw[q,hl] at hd2; cases hd2
   have z1:lkB h0 j=.dead:=by rw[hh0,Ì _ hne]; exact hd2
   exact⟨hne,q8 j (by omega) (dd1 j (by omega) z1)⟩
  have keep3:∀b,b<w.heap.size->¬mq ν S.h b->W3.heap[b]?=w.heap[b]?:=fun b hb hn=>by
   rw[h3o b (by omega),j8 b hb hn]
  have oss:W3.os=w.os/\W3.tape=w.tape/\W3.output=w.output:=by
   rw[hW3];exact⟨j1,j2,j3⟩
  have sz3:w.heap.size<=W3.heap.size:=by omega
  have hgb:¬g.G b0:=fun q=>@HR.ghne _ g _ _ _ hH id b0 (by rw[hl]; rfl) (by rw[hν]; rfl) q
  by_cases hip:id<x.pin
  ·-- the box is there again
   have hbt:Nat.blt id x.pin=true:=f9 hip;rw[acp,hbt] at hke;have hd0:lkB Se.h id=.dead:=q8 id hip (dd1 id hip (by rw[hh0]; exact Ø _ hid));have hidl:id<Se.h.length:=cf hip ple;have hw3:W3.heap[b0]?=some (.cells #[.string s'] te' (0,0)):=(h3o b0 (by omega)).trans hbox;have hrE:=Za (g:=g) (D:=g.D) (Q:=g.Q) (M:=g.M) (D1:=[]) (Q1:=none) (M1:=0) (G1:=sM g b0) (cs:=[.any]) hd0 hidl (fun b hb=>.inl hb) (.inr rfl) hgb (fun q=>@HR.globL _ g _ _ _ hH b0 q hb0L) hw3 ⟨⟨trivial,rfl⟩,trivial⟩ H3;refine⟨_,_,@Sim.mk _ g _ _ _ _ hfr3 (by show Se.t.length<=_; rw[hSt]; exact htl) (fun i=>Y9 (g:=g) (D:=g.D) (Q:=g.Q) (M:=g.M) (D1:=[]) (Q1:=none) (M1:=0) (G1:=sM g b0) (cs:=[.any]) hd0 hidl (fun b hb=>.inl hb) (.inr rfl) (V3 i)) (HR.er hrE),⟨oss.1,oss.2.1,oss.2.2,sz3,fun b hb hn=>⟨keep3 b hb hn,?_⟩,fun i hi=>?_⟩,?_,fun j hj hd2=>?_,hke⟩
   ·rintro⟨j,hj,ho⟩
    by_cases q:j=id
    ·rw[q,È] at ho; cases ho; exact hn hb0L
    ·have hj:(lkB (ã Se.h id (.cells [.any])) j).live=true:=hj;rw[Ì _ q] at hj; rw[ø _ _ q] at ho;exact q6 b hb hn ⟨j,hj,ho⟩
   ·show(lkB S.h i).next ν _ i (lkB (ã Se.h id (.cells [.any])) i)
    by_cases q:i=id
    ·subst q;rw[Ø _ hidl,hl];exact⟨⟨_,rfl⟩,by rw[È,hν]⟩
    ·rw[Ì _ q];have z:=blk3 i hi q;have e:=ø νe (.pointer (some ⟨b0,0,none⟩)) q;revert z
     cases lkB S.h i<;>intro z
     ·trivial
     ·exact⟨z.1,e.trans z.2⟩
     ·obtain⟨g',fz,xs',y1,y2,y3⟩:=z;exact⟨g',fz,xs',y1,y2,fun y4=>⟨e.trans (y3 y4).1,(y3 y4).2⟩⟩
     ·exact⟨z.1,e.trans z.2⟩
     ·obtain⟨g',xs',y1,y2,y3⟩:=z;exact⟨g',xs',y1,y2,fun y4=>⟨e.trans (y3 y4).1,(y3 y4).2⟩⟩
     ·exact z
     ·exact⟨z.1,e.trans z.2⟩
     ·exact⟨z.1,e.trans z.2⟩
   ·show m<=(ã Se.h id (.cells [.any])).length;rw[Ë]; omega
   ·obtain⟨hne,hde⟩:=dd3 j hj hd2;show lkB (ã Se.h id (.cells [.any])) j=.dead;rw[Ì _ hne]; exact hde
  ·have hbt:Nat.blt id x.pin=false:=by
    cases hq:Nat.blt id x.pin with
    |false=>rfl
    |true=>exact absurd (dl hq) hip
   rw[acp,hbt] at hke;have KGl:gu (g.re (sM g b0) [] none 0) νe Se.h W3 g.G W3:=gu.less (fun b hb=>.inl hb);refine⟨νe,Se,@Sim.mk _ g _ _ _ _ hfr3 (by rw[hSt]; exact htl) (fun i=>VR.step (g:=g.re (sM g b0) [] none 0) (D:=g.D) (Q:=g.Q) (M:=g.M) KGl (V3 i)) (HR.step (g:=g.re (sM g b0) [] none 0) (D:=g.D) (Q:=g.Q) (M:=g.M) KGl (fun b hb=>@HR.ghlt _ (g.re (sM g b0) [] none 0) _ _ _ H3 b (.inl hb)) (fun b ⟨i,hi,hbi⟩ hg=>@HR.ghne _ (g.re (sM g b0) [] none 0) _ _ _ H3 i b hi hbi (.inl hg)) H3),⟨oss.1,oss.2.1,oss.2.2,sz3,fun b hb hn=>⟨keep3 b hb hn,q6 b hb hn⟩,fun i hi=>blk3 i hi (by omega)⟩,by omega,fun j hj hd2=>(dd3 j hj hd2).2,hke⟩
 rcases hpe with⟨rfl,rfl⟩|⟨rfl,rfl⟩
 ·exact aft
 ·exact wpIn_ret aft
end
end
end Go.Am
end

noncomputable section
namespace Go.Am
variable [Globs] [É]
section
variable {ρ:Type}
def OI:y5 Ke->y5 Nat->Nat->Nat->x9 Ke
 |[],_,_,_=>none
 |x::l,path,fid,bid=>match Nat.beq x.bid bid&&(Nat.beq x.fid fid&&eqL x.path path) with
  |true=>some x
  |false=>OI l path fid bid
def D7 (tab:y5 Ke) (path:y5 Nat) (fid bid m:Nat) (g:AV) (S:St) (K:Exit->St->x9 ρ):x9 ρ :=
 match OI tab path fid bid with
 |some x=>rngX x m g S K
 |none=>none
omit [É] in
def GG:∀{tab:y5 Ke} {path:y5 Nat} {fid bid:Nat} {x:Ke},OI tab path fid bid=some x->x∈tab/\x.path=path/\x.fid=fid/\x.bid=bid
 |[],_,_,_,_,h=>by cases h
 |y::tab,path,fid,bid,x,h=>by
  unfold OI at h
  split at h
  ·rename_i hb;simp only[bZ] at hb;cases h;exact⟨by simp,OO hb.2.2,cd hb.2.1,cd hb.1⟩
  ·obtain⟨h1,h2⟩:=GG h;exact⟨by simp[h1],h2⟩
omit [É] in
def Xg {E:Env ρ} (hmix:E.P.follows .mixedOrders=true) {tab:y5 (į ρ)} (Y:E.loops=gK tab) (U:∀x∈tab,x.Ok E) {rtab:y5 Ke} (hR:E.ranges=D7 rtab) (C:∀x∈rtab,x.Ok E) (R:∀x∈rtab,TZ (w7 (ŵ E.P x.fid) x.bid)=true):uQ E:=by
 intro n hn o g0 q path f fn c hp hf hc
 have u:ŵ E.P f=some c:=by simp only[ŵ,hf,hc]
 have I:∀(N:Nat) (x:Nat×LI),x.2.sz<N->x∈Ñ 0 c->∀[É],Ι E->iy E path f x.1 x.2:=by
  intro N
  induction N with
  |zero=>intro x h; omega
  |succ N ih =>
   intro⟨bid,b⟩ hN B
   have G:∀y∈b.loops bid,y.2.sz<N:=fun y q=>by
    cases b with
    |lp b=>have:=Ē b bid (bid:=y.1) (b:=y.2) q; simp only[LI.sz] at hN; omega
    |rf gop ps A Bd =>
     simp only[LI.sz] at hN;rcases b8.1 q with q|q
     ·have:=Ē A bid (bid:=y.1) (b:=y.2) q; omega
     ·have:=Ē Bd bid (bid:=y.1) (b:=y.2) q; omega
   have D:∀[É],Ι E->∀y∈b.loops bid,iy E path f y.1 y.2:=fun J y q=>ih y (G y q) (ķ c 0 B y q) J;intro g1 s
   cases b with
   |lp b =>
    intro m S K r ν a w e H V;rw[Y] at e;unfold gK at e
    cases j:UI S tab path f bid with
    |none =>
     rw[j] at e;cases e
    |some x =>
     obtain⟨h1,h2,h3,Z⟩:=B9 j;obtain⟨i,d⟩:=U x h1;subst h3 Z;rw[u] at i d;simp only[Option.elim] at i
     have hb:sK (some c) x.bid=b:=by unfold sK; rw[qt i B]
     rw[hb] at d
     have hd:10-x.path.length / 2=n:=by rw[h2]; omega
     rw[hd,h2] at d;rw[<-h2] at d;rw[j] at e;exact SF (path:=x.path) jI (o s) (θ hmix _ _ (o s)) (by rw[h2]; omega) (by rw[h2]; exact D s) x.L x.bF (fun p v kn kx=>d p v kn kx) e H V
   |rf gop ps A Bd =>
    intro m S K r ν a w e H V;rw[hR] at e;unfold D7 at e
    cases j:OI rtab path f bid with
    |none =>
     rw[j] at e;cases e
    |some x =>
     obtain⟨h1,h2,h3,Z⟩:=GG j;obtain⟨i,X,O,M,W,Q,d⟩:=C x h1;have t:=R x h1;subst h3 Z;rw[u] at i d t;simp only[Option.elim] at i;rw[qt i B] at d t
     have hd:10-x.path.length / 2=n:=by rw[h2]; omega
     rw[hd] at d;rw[j] at e
     have T:∃p0,ps.toList=[p0]:=by
      simp only[TZ] at t
      split at t
      ·exact⟨_,‹_›⟩
      ·cases t
     exact Xx (x:=x) o (fun Y=>θ hmix _ _ Y) (by rw[h2]; omega) s (fun q z hz=>by rw[h2]; exact D q z hz) X O M W Q d T (o s).plain e H V
 exact fun x B=>I _ x (f5 _) B q
omit [É] in
def Wm {f:Nat} {p:Č} (E:Env (Val (tyL p.rs))) (hlib:∀[É],uR E) (hmix:E.P.follows .mixedOrders=true) {tab:y5 (į (Val (tyL p.rs)))} (i:E.loops=gK tab) (d:∀x∈tab,x.Ok E) {rtab:y5 Ke} (e:E.ranges=D7 rtab) (b:∀x∈rtab,x.Ok E) (c:∀x∈rtab,TZ (w7 (ŵ E.P x.fid) x.bid)=true) (law:EF p E f):Þ E.P f p :=
 DS E hlib hmix (Xg hmix i d e b c) law
end
end Go.Am
end

noncomputable section
namespace Go.Am
variable [Globs]
section
variable {α:Type}
def fcN (m:Nat) (K:Nat->α):α:=match m with
 |0=>K 0
 |k+1=>K (Nat.succ k)
def fcI (n:Int) (K:Int->α):α:=match n with
 |.ofNat m=>fcN m fun m=>K (.ofNat m)
 |.negSucc m=>fcN m fun m=>K (.negSucc m)
def fcL {β:Type} (f:β->(β->α)->α):y5 β->(y5 β->α)->α
 |[],K=>K []
 |x::l,K=>f x fun x=>fcL f l fun l=>K (x::l)
def fcV:(t:Ty)->Val t->(Val t->α)->α
 |.unit,_,K=>K ()
 |.bool,b,K=>match b with
  |true=>K true
  |false=>K false
 |.int _,n,K=>fcI n K
 |.str,s,K=>K s
 |.slice t,l,K=>fcL (fcV t) l K
 |.map k v,l,K=>fcL (fun e K=>fcV k e.1 fun a=>fcV v e.2 fun b=>K (a,b)) l K
 |.ptr t,x,K=>fcV t x K
 |.pair a b,x,K=>fcV a x.1 fun p=>fcV b x.2 fun q=>K (p,q)
def fcA:Nat->AV->(AV->α)->α
 |0,v,K=>K v
 |n+1,v,K=>match v with
  |.int k x=>fcI x fun x=>K (.int k x)
  |.bool b=>match b with
   |true=>K (.bool true)
   |false=>K (.bool false)
  |.slc t xs=>fcL (fcV t) xs fun xs=>K (.slc t xs)
  |.mp a b es=>fcV (.map a b) es fun es=>K (.mp a b es)
  |.eptr t x off=>fcV t x fun x=>fcN off fun off=>K (.eptr t x off)
  |.own i g=>fcN i fun i=>fcN g fun g=>K (.own i g)
  |.sub i g lo m=>fcN i fun i=>fcN g fun g=>fcN lo fun lo=>fcN m fun m=>K (.sub i g lo m)
  |.box i off=>fcN i fun i=>fcN off fun off=>K (.box i off)
  |.agg cs=>fcL (fcA n) cs fun cs=>K (.agg cs)
  |.tup cs=>fcL (fcA n) cs fun cs=>K (.tup cs)
  |v=>K v
def fcB (b:Blk) (K:Blk->α):α:=match b with
 |.cells cs=>fcL (fcA 4) cs fun cs=>K (.cells cs)
 |.row t g fz xs=>fcN g fun g=>fcL (fcV t) xs fun xs=>K (.row t g fz xs)
 |.map a b es=>fcV (.map a b) es fun es=>K (.map a b es)
 |.deep k g xss=>fcL (fcL fcI) xss fun xss=>K (.deep k g xss)
 |b=>K b
def fcS (S:St) (K:St->α):α:=fcL (fcA 4) S.t fun t=>fcL fcB S.h fun h=>K {t:=t,h:=h}
theorem JZ (m:Nat) (K:Nat->α):fcN m K=K m:=by cases m<;>rfl
theorem X3 (n:Int) (K:Int->α):fcI n K=K n:=by cases n<;>simp only[fcI,JZ]
theorem sO {β:Type} {f:β->(β->α)->α} (b:∀x K,f x K=K x):∀(l:y5 β) (K:y5 β->α),fcL f l K=K l
 |[],_=>rfl
 |x::l,K=>by simp only[fcL]; rw[b,sO b l]
theorem oW:∀(t:Ty) (x:Val t) (K:Val t->α),fcV t x K=K x
 |.unit,_,_=>rfl
 |.bool,b,_=>by cases b<;>rfl
 |.int _,n,K=>X3 n K
 |.str,_,_=>rfl
 |.slice t,l,K=>sO (oW t) l K
 |.map k v,l,K=>sO (fun e K=>by rw[oW k,oW v]) l K
 |.ptr t,x,K=>oW t x K
 |.pair a b,x,K=>by simp only[fcV]; rw[oW a,oW b]
theorem Te:∀(n:Nat) (v:AV) (K:AV->α),fcA n v K=K v
 |0,_,_=>rfl
 |n+1,v,K=>by
  cases v with
  |int k x=>simp only[fcA,X3]
  |bool b=>cases b<;>rfl
  |slc t xs=>exact sO (oW t) _ _
  |mp a b es=>exact oW (.map a b) _ _
  |eptr t x off=>simp only[fcA]; rw[oW,JZ]
  |own i g=>simp only[fcA,JZ]
  |sub i g lo m=>simp only[fcA,JZ]
  |box i off=>simp only[fcA,JZ]
  |agg cs=>exact sO (Te n) _ _
  |tup cs=>exact sO (Te n) _ _
  |_=>rfl
theorem fcB_eq (b:Blk) (K:Blk->α):fcB b K=K b:=by
 cases b with
 |cells cs=>exact sO (Te 4) _ _
 |row t g fz xs=>simp only[fcB,JZ]; exact sO (oW t) _ _
 |map a b es=>exact oW (.map a b) _ _
 |deep k g xss=>exact sO (sO X3) _ _
 |_=>rfl
theorem fcS_eq (S:St) (K:St->α):fcS S K=K S:=by unfold fcS; rw[sO (Te 4),sO fcB_eq]
end
section
variable {ρ:Type}
def oneB (c:x9 Code) (bid:Nat):Bool:=Nat.beq ((c.elim [] (Ñ 0)).filter fun y=>Nat.beq y.1 bid).length 1
def CY (E:Env ρ):Nat->Env ρ
 |0=>{E with loops:=fun _ _ _ _ _ _=>none}
 |k+1=>{E with loops:=fun path fid bid m S K=>E.wp fun P=>match oneB (ŵ P fid) bid with
    |true=>Bk (fun S K=>fcS S fun S=>goC (CY E k) (ŭ (CY E k) (10-path.length / 2)) fid path m bid (sK (ŵ P fid) bid) S K) 3000 S K
    |false=>none}
theorem OP (E:Env ρ):∀k,(CY E k).P=E.P
 |0=>rfl
 |_+1=>rfl
theorem X6 {E:Env ρ} (hlib:∀k [É],uR (CY E k)) (hra:E.ranges=ż []) (hmix:E.P.follows .mixedOrders=true):∀k,uQ (CY E k)
 |0=>by
  intro n u _ R _ path f fn c z G I ⟨bid,b⟩ v
  cases b with
  |rf gop ps A Bd =>
   intro m S K r ν a w e;rw[show(CY E 0).ranges=ż [] from hra] at e;cases e
  |lp b =>
   intro m S K r ν a w e;cases e
 |k+1=>by
  intro n u _ R _ path f fn c z G I ⟨bid,b⟩ v;have t:=X6 hlib hra hmix k
  have s:(CY E k).P.follows .mixedOrders=true:=by rw[OP]; exact hmix
  have i:=jk (E:=CY E k) (fun _=>hlib k) (fun L call Q=>θ s L call Q) t;have q:Ι (CY E k):=uR.yld (hlib k);have j:=i n u q;have o:kd (CY E k) (22-2*n) (ŭ (CY E k) n):=θ s _ _ j
  have D:(CY E k).P.funcs[f]?=some fn:=by rw[OP]; exact G
  have B:=t n u (i n u) q path f fn c z D I
  have d:ŵ E.P f=some c:=by
   have C:E.P.funcs[f]?=some fn:=G;simp only[ŵ,C,I]
  cases b with
  |rf gop ps A Bd =>
   intro m S K r ν a w e;rw[show(CY E (k+1)).ranges=ż [] from hra] at e;cases e
  |lp b =>
  intro m S K r ν a w e H O
  replace e:=(E.wp_eq _).symm.trans e
  replace e:(match oneB (ŵ E.P f) bid with
   |true=>Bk (fun S K=>fcS S fun S=>goC (CY E k) (ŭ (CY E k) (10-path.length / 2)) f path m bid (sK (ŵ E.P f) bid) S K) 3000 S K
   |false=>none)=some r:=e
  split at e
  ·rename_i N
   have hd:10-path.length / 2=n:=by omega
   have J:=cd N;rw[d] at J
   have hb:sK (some c) bid=b:=by unfold sK; rw[qt J v]
   rw[hd,d,hb] at e;simp only[fcS_eq] at e;have:=tc j o z (fun y M=>B y (ķ c 0 v y M)) 3000 S ν a w e H O (Ev.refl _ _ _ _) (Dd.refl _ _);rw[OP] at this;exact wpIn_loop_rounds 3000 this
  ·cases e
end
def eqVs {α:Type} (f:α->α->Bool):y5 α->y5 α->Bool
 |[],[]=>true
 |a::l,b::m=>match f a b with
  |true=>eqVs f l m
  |false=>false
 |_,_=>false
def eqV:(t:Ty)->Val t->Val t->Bool
 |.unit,_,_=>true
 |.bool,a,b=>match a,b with
  |true,true=>true
  |false,false=>true
  |_,_=>false
 |.int _,a,b=>decide (a=b)
 |.str,_,_=>false
 |.slice t,a,b=>eqVs (eqV t) a b
 |.map s t,a,b=>eqVs (fun x y=>match eqV s x.1 y.1 with
  |true=>eqV t x.2 y.2
  |false=>false) a b
 |.ptr t,a,b=>eqV t a b
 |.pair s t,a,b=>match eqV s a.1 b.1 with
  |true=>eqV t a.2 b.2
  |false=>false
omit [Globs] in
theorem QL {α:Type} {f:α->α->Bool} (c:∀a b,f a b=true->a=b):∀{l m:y5 α},eqVs f l m=true->l=m
 |[],[],_=>rfl
 |a::l,b::m,h=>by
  unfold eqVs at h
  split at h
  ·rename_i h1;rw[c a b h1,QL c h]
  ·cases h
 |[],_::_,h=>by cases h
 |_::_,[],h=>by cases h
omit [Globs] in
theorem AX:∀(t:Ty) (a b:Val t),eqV t a b=true->a=b
 |.unit,_,_,_=>rfl
 |.bool,a,b,h=>by cases a<;>cases b<;>first|rfl|cases h
 |.int _,a,b,h=>of_decide_eq_true h
 |.str,_,_,h=>by cases h
 |.slice t,a,b,h=>QL (AX t) h
 |.map s t,a,b,h=>QL (fun x y h=>by
    split at h
    ·rename_i h1;exact Prod.ext (AX s _ _ h1) (AX t _ _ h)
    ·cases h) h
 |.ptr t,a,b,h=>AX t a b h
 |.pair s t,a,b,h=>by
  unfold eqV at h
  split at h
  ·rename_i h1;exact Prod.ext (AX s _ _ h1) (AX t _ _ h)
  ·cases h
def P8 (ts rs:y5 Ty) (x:Val (tyL ts)) (y:Val (tyL rs)):Č:=⟨ts,rs,fun z=>match eqV (tyL ts) x z with
 |true=>some y
 |false=>none⟩
def acz {rs:y5 Ty} (E:Env (Val (tyL rs))) (f:Nat) (ts:y5 Ty) (x:Val (tyL ts)):x9 (Val (tyL rs)):=ZK E f (Ee ts x) fun h v=>match T4 rs h v with
 |some y=>fcV (tyL rs) y some
 |none=>none
theorem PY {rs:y5 Ty} (E:Env (Val (tyL rs))) (f:Nat) (ts:y5 Ty) (x:Val (tyL ts)):acz E f ts x=ZK E f (Ee ts x) (T4 rs):=by
 unfold acz;congr 1;funext h v
 cases T4 rs h v with
 |none=>rfl
 |some y=>exact oW _ _ _
def PG (mk:Nat->(ρ:Type)->(Nat->x9 Č)->Env ρ) (sig:Nat->x9 (y5 Ty×y5 Ty)) (base:Nat->x9 Č) (k:Nat):Nat->Nat->x9 Č
 |0,f=>base f
 |j+1,f=>match base f with
  |some p=>some ⟨p.ts,p.rs,fun x=>fcV (tyL p.ts) x fun x=>match p.F x with
   |some y=>some y
   |none=>acz (CY (mk f (Val (tyL p.rs)) (PG mk sig base k j)) k) f p.ts x⟩
  |none=>match sig f with
   |some s=>some ⟨s.1,s.2,fun x=>fcV (tyL s.1) x fun x=>acz (CY (mk f (Val (tyL s.2)) (PG mk sig base k j)) k) f s.1 x⟩
   |none=>none
section
variable {P:Program} {mk:Nat->(ρ:Type)->(Nat->x9 Č)->Env ρ} {sig:Nat->x9 (y5 Ty×y5 Ty)} {base:Nat->x9 Č} {k:Nat}
 (hP:∀f ρ pr,(mk f ρ pr).P=P) (hlib:∀f ρ pr,(∀f p,pr f=some p->Þ P f p)->∀k [É],uR (CY (mk f ρ pr) k)) (hra:∀f ρ pr,(mk f ρ pr).ranges=ż []) (hmix:P.follows .mixedOrders=true) (hb:∀f p,base f=some p->Þ P f p)
include hP hlib hra hmix
theorem PV {pr:Nat->x9 Č} (h:∀f p,pr f=some p->Þ P f p) (f:Nat) (ts rs:y5 Ty):Þ P f ⟨ts,rs,fun x=>ZK (CY (mk f (Val (tyL rs)) pr) k) f (Ee ts x) (T4 rs)⟩:=by
 have b:(CY (mk f (Val (tyL rs)) pr) k).P.follows .mixedOrders=true:=by rw[OP,hP]; exact hmix
 have:=DS (f:=f) (p:=⟨ts,rs,fun x=>ZK (CY (mk f (Val (tyL rs)) pr) k) f (Ee ts x) (T4 rs)⟩) (CY (mk f (Val (tyL rs)) pr) k) (hlib f _ pr h k) b (X6 (hlib f _ pr h) (hra f _ pr) (by rw[hP]; exact hmix) k) (fun _=>rfl)
 rwa [OP,hP] at this
include hb
theorem Ki:∀(j f:Nat) (p:Č),PG mk sig base k j f=some p->Þ P f p
 |0,f,p,h=>hb f p h
 |j+1,f,p,h=>by
  unfold PG at h
  split at h
  ·rename_i q c;cases h;have h1:=hb f _ c;have h2:=PV (k:=k) hP hlib hra hmix (Ki j) f q.ts q.rs;intro G z y b
   replace b:(match q.F z with|some y=>some y|none=>acz (CY (mk f (Val (tyL q.rs)) (PG mk sig base k j)) k) f q.ts z)=some y:=by simpa only[oW] using b
   cases e:q.F z with
   |some u=>rw[e] at b; cases b; exact h1 G z _ e
   |none=>rw[e] at b; rw[PY] at b; exact h2 G z y b
  ·split at h
   ·rename_i s _;cases h;have:=PV (k:=k) hP hlib hra hmix (Ki j) f s.1 s.2;simpa only[oW,PY] using this
   ·cases h
theorem Z3 {f:Nat} {ts rs:y5 Ty} {x:Val (tyL ts)} {y:Val (tyL rs)} (j:Nat) (law:acz (CY (mk f (Val (tyL rs)) (PG mk sig base k j)) k) f ts x=some y):Þ P f (P8 ts rs x y):=by
 have h:=PV (k:=k) hP hlib hra hmix (Ki (sig:=sig) (k:=k) hP hlib hra hmix hb j) f ts rs;intro G z c b;refine h G z c ?_;unfold P8 at b;simp only at b
 split at b
 ·rename_i d;have:=AX _ _ _ d;subst this;cases b;rw[PY] at law;exact law
 ·cases b
end
section
variable {P:Program} {f:Nat} {ts rs:y5 Ty}
def ads (ts:y5 Ty) {β:Type}:y5 (Val (tyL ts)×β)->Val (tyL ts)->x9 β
 |[],_=>none
 |e::l,z=>match eqV (tyL ts) e.1 z with
  |true=>some e.2
  |false=>ads ts l z
def iL (ts rs:y5 Ty) (l:y5 (Val (tyL ts)×Val (tyL rs))):Č:=⟨ts,rs,ads ts l⟩
theorem Ź:Þ P f (iL ts rs []):=fun _ _ _ h=>by cases h
theorem õ {x:Val (tyL ts)} {y:Val (tyL rs)} {l:y5 (Val (tyL ts)×Val (tyL rs))} (h:Þ P f (P8 ts rs x y)) (c:Þ P f (iL ts rs l)):Þ P f (iL ts rs ((x,y)::l)):=by
 intro G z u b
 replace b:(match eqV (tyL ts) x z with|true=>some y|false=>ads ts l z)=some u:=b
 split at b
 ·rename_i e;refine h G z u ?_;show(match eqV (tyL ts) x z with|true=>some y|false=>none)=some u;rw[e]; exact b
 ·exact c G z u b
theorem ET {p:Č} {x:Val (tyL p.ts)} {y:Val (tyL p.rs)} (h:Þ P f p) (e:p.F x=some y):Þ P f (P8 p.ts p.rs x y):=by
 intro G z u b;unfold P8 at b;simp only at b
 split at b
 ·rename_i c;have:=AX _ _ _ c;subst this;cases b;exact h G _ _ e
 ·cases b
structure Kn (P:Program) where
 f:Nat
 p:Č
 ok:Þ P f p
def kn:y5 (Kn P)->Nat->x9 Č
 |[],_=>none
 |e::l,f=>match Nat.beq e.f f with
  |true=>some e.p
  |false=>kn l f
theorem kn_ok:∀(l:y5 (Kn P)) (f:Nat) (p:Č),kn l f=some p->Þ P f p
 |[],_,_,h=>by cases h
 |e::l,f,p,h=>by
  unfold kn at h
  split at h
  ·rename_i b;cases h;rw[<-cd b];exact e.ok
  ·exact kn_ok l f p h
end
end Go.Am
end
