/- lemmas -/
import Derived.Test.YtbfmlbheofblcaaGreatAmD
import Derived.RangeFuncNested
set_option linter.all false
noncomputable section
namespace Go.Am
open Go.RowKit
def mfT:Ty->Bool
 |.map _ _=>false
 |.slice t=>mfT t
 |.fsl t=>mfT t
 |.ptr t=>mfT t
 |.pair a b=>mfT a&&mfT b
 |_=>true
def mfV0:AV->Bool
 |.slc t _=>mfT t
 |.fsc t _=>mfT t
 |.mp _ _ _=>false
 |.eptr t _ _=>mfT t
 |_=>true
def mfV1:AV->Bool
 |.fn _ a b=>a.all mfV0&&b.all mfV0
 |a=>mfV0 a
def mfV2:AV->Bool
 |.agg cs=>cs.all mfV1
 |a=>mfV1 a
def mfV3:AV->Bool
 |.tup cs=>cs.all mfV2
 |a=>mfV2 a
def mfB:Blk->Bool
 |.dead=>true
 |.cells cs=>cs.all mfV1
 |.row t _ _ _=>mfT t
 |.map k v _=>mfT k&&mfT v
 |.deep _ _ _=>true
 |.acc _ _=>false
 |.fns _=>false
 |.iter _ _=>false
structure Ο (w w':World):Prop where
 size:w.heap.size<=w'.heap.size
 same:∀(b:Nat) (c:Array Value) (e:TypeId) (r:Nat×Nat),w.heap[b]?=some (.cells c e r)->w'.heap[b]?=some (.cells c e r)
section
variable [ë] {w w':World}
def Ο.cell (K:Ο w w') {a:Addr} {v:Value} (h:w.cell? a=some v):w'.cell? a=some v:=by
 unfold World.cell? at h ⊢
 split at h<;>try (cases h; done)
 rename_i c e r hb;rw[K.same _ _ _ _ hb]; exact h
def Ο.at_ (K:Ο w w') {b off:Nat} {vs:AS Value} (h:Ď w b off vs):Ď w' b off vs:=fun j v a=>K.cell (h j v a)
def CR.ckeep (K:Ο w w') {av:Nat->Prop}:∀{t:Ty} {x:Val t} {vs:AS Value},mfT t=true->CR w av t x vs->CR w' av t x vs
 |.unit,_,_,_,h=>h
 |.bool,_,_,_,h=>h
 |.int _,_,_,_,h=>h
 |.str,_,_,_,h=>h
 |.slice t,xs,vs,d,h=>by
  obtain⟨base,cap,e,m,h⟩:=h;refine⟨base,cap,e,m,?_⟩;rcases h with h|⟨b,off,hb,f,g,h⟩
  ·exact .inl h
  ·refine .inr ⟨b,off,hb,f,df g K.size,fun i x l=>?_⟩;obtain⟨us,j,h2⟩:=h i x l;exact⟨us,CR.ckeep K d j,K.at_ h2⟩
 |.map k v,es,vs,d,h=>by cases d
 |.ptr t,x,vs,d,h=>by
  obtain⟨b,off,us,e,f,g,j,h2⟩:=h;exact⟨b,off,us,e,f,df g K.size,CR.ckeep K d j,K.at_ h2⟩
 |.pair a b,x,vs,d,h=>by
  obtain⟨us,o,e,j,h2⟩:=h;simp only[mfT,cM] at d;exact⟨us,o,e,CR.ckeep K d.1 j,CR.ckeep K d.2 h2⟩
 |.fsl t,xs,vs,d,h=>by
  obtain⟨base,cap,e,m,h⟩:=h;refine⟨base,cap,e,m,?_⟩;rcases h with h|⟨b,off,c,s,hb,f,r,q,p,h⟩
  ·exact .inl h
  ·refine .inr ⟨b,off,c,s,hb,f,r,K.same _ _ _ _ q,p,fun i x l=>?_⟩;obtain⟨us,j,h2⟩:=h i x l;exact⟨us,CR.ckeep K d j,K.at_ h2⟩
def ò.mem {α β:Type} {R d:α->β->Prop}:∀{l:AS α} {m:AS β},(∀a∈l,∀b,R a b->d a b)->ò R l m->ò d l m
 |[],[],_,_=>trivial
 |a::l,b::m,c,h=>⟨c a (by simp) b h.1,ò.mem (fun a ha=>c a (by simp[ha])) h.2⟩
 |[],_::_,_,h=>h.elim
 |_::_,[],_,h=>h.elim
end
variable [ë] [Ð]
section
variable {ν ν':Nat->Value} {h h':AS Blk} {w w':World}
def VR0.ckeep (K:Ο w w') {a:AV} {v:Value} (d:mfV0 a=true) (c:VR0 ν h w a v):VR0 ν h w' a v:=by
 cases a with
 |slc t xs=>exact CR.ckeep K (t:=.slice t) d c
 |fsc t xs=>exact CR.ckeep K (t:=.fsl t) d c
 |mp k t es=>cases d
 |eptr t x off =>
  obtain⟨b,o,us,i,h2,g,f,e⟩:=c;exact⟨b,o,us,i,h2,df g K.size,CR.ckeep K d f,K.at_ e⟩
 |_=>exact c
def VR1.ckeep (K:Ο w w') {a:AV} {v:Value} (b:mfV1 a=true) (c:VR1 ν h w a v):VR1 ν h w' a v:=by
 cases d:a.isFn with
 |true =>
  cases a<;>try cases d
  obtain⟨fs,cs,f,h2,e⟩:=c;simp only[mfV1,cM,dw] at b;exact⟨fs,cs,f,h2.mem fun a ha _=>VR0.ckeep K (b.1 a ha),e.mem fun a ha _=>VR0.ckeep K (b.2 a ha)⟩
 |false =>
  rw[sc d] at c ⊢;refine VR0.ckeep K ?_ c
  cases a<;>first|exact b|cases d
def VR2.ckeep (K:Ο w w') {a:AV} {v:Value} (c:mfV2 a=true) (b:VR2 ν h w a v):VR2 ν h w' a v:=by
 cases d:a.isAgg with
 |true =>
  cases a<;>try cases d
  obtain⟨vs,f,h2⟩:=b;simp only[mfV2,dw] at c;exact⟨vs,f,h2.mem fun a ha _ e=>⟨VR1.ckeep K (c a ha) e.1,e.2⟩⟩
 |false =>
  rw[uB d] at b ⊢;refine VR1.ckeep K ?_ b
  cases a<;>first|exact c|cases d
def VR.ckeep (K:Ο w w') {a:AV} {v:Value} (c:mfV3 a=true) (b:VR ν h w a v):VR ν h w' a v:=by
 cases d:a.isTup with
 |true =>
  cases a<;>try cases d
  obtain⟨vs,e,h2⟩:=b;simp only[mfV3,dw] at c;exact⟨vs,e,h2.mem fun a ha _=>VR2.ckeep K (c a ha)⟩
 |false =>
  rw[sa d] at b ⊢;refine VR2.ckeep K ?_ b
  cases a<;>first|exact c|cases d
def HR.ckeep (K:Ο w w') (J:∀id k v es b,lkB h id=.map k v es->ν id=.map (some b)->w'.heap[b]?=w.heap[b]?) (d:∀id,mfB (lkB h id)=true) (H:HR ν h w):HR ν h w':=by
 refine⟨fun id=>?_,H.inj,fun b hb=>df (H.ghlt b hb) K.size,H.ghne,ë.keep _ _ H.glob (fun b hb=>by obtain⟨c,e,r,q⟩:=ë.cel w H.glob b hb; rw[q]; exact K.same _ _ _ _ q),H.globL⟩;have j:=H.blk id;have d:=d id;have J:=J id
 cases o:lkB h id with
 |dead=>trivial
 |cells cs =>
  rw[o] at j d;obtain⟨b,c,e,p,h2,l⟩:=j;simp only[mfB,dw] at d;exact⟨b,c,e,p,K.same _ _ _ _ h2,l.mem fun a ha _ M=>⟨VR1.ckeep K (d a ha) M.1,M.2⟩⟩
 |row t g fz xs =>
  rw[o] at j d
  cases fz with
  |true=>exact CR.ckeep K (t:=.fsl t) d j
  |false =>
   obtain⟨base,cap,p,h2,l⟩:=j;refine⟨base,cap,p,h2,?_⟩;rcases l with l|⟨b,off,c,e,B,L,S,R⟩
   ·exact .inl l
   ·refine .inr ⟨b,off,c,e,B,K.same _ _ _ _ L,S,fun i x I=>?_⟩;obtain⟨us,A,z⟩:=R i x I;exact⟨us,CR.ckeep K d A,K.at_ z⟩
 |map k v es =>
  rw[o] at j d;obtain⟨b,f,C,p,h2,l,B⟩:=j;simp only[mfB,cM] at d;refine⟨b,f,C,p,(J k v es b o p).trans h2,l,fun i x I=>?_⟩;obtain⟨m,us,A,z,y,G⟩:=B i x I;exact⟨m,us,A,CR.ckeep K d.1 z,CR.ckeep K d.2 y,G⟩
 |deep k g xss =>
  rw[o] at j;obtain⟨base,cap,us,p,h2,l,B,L⟩:=j;refine⟨base,cap,us,p,h2,l,?_,L.mono fun xs u Q=>?_⟩
  ·rcases B with B|⟨b,off,c,e,A,z,y⟩
   ·exact .inl B
   ·exact .inr ⟨b,off,c,e,A,K.same _ _ _ _ z,y⟩
  ·obtain⟨D,E,A,z,y⟩:=Q;refine⟨D,E,A,z,?_⟩;rcases y with y|⟨b,off,c,e,G,O,N⟩
   ·exact .inl y
   ·exact .inr ⟨b,off,c,e,G,K.same _ _ _ _ O,N⟩
 |acc t xs=>rw[o] at d; cases d
 |fns es=>rw[o] at d; cases d
 |iter s q=>rw[o] at d; cases d
structure afb (B:Nat) (ν:Nat->Value) (h:AS Blk):Prop where
 lt:∀id k v es b,lkB h id=.map k v es->ν id=.map (some b)->b<B
 na:∀id t xs,lkB h id≠.acc t xs
 nf:∀id es,lkB h id≠.fns es
 ni:∀id s q,lkB h id≠.iter s q
def KZ {B:Nat} {row:AN Nat} (d:w.grownBy w' row) (f:∀r,row=some r->B<=r/\∃o:Obj,w.heap[r]?=some o/\o.isCells=false):Ο w w' :=
 ⟨d.size,fun b c e r hb=>(d.block b (à hb) fun i=>by obtain⟨_,o,a,g⟩:=f b i.symm; rw[hb] at a; cases a; cases g).trans hb⟩
def Sim.ckeep {S:St} {a:Act} (K:Ο w w') (f:Fr w' a.defers) (e:∀id k v es b,lkB S.h id=.map k v es->ν id=.map (some b)->w'.heap[b]?=w.heap[b]?) (d:∀id,mfB (lkB S.h id)=true) (c:∀i,mfV3 (lk S.t i)=true) (H:Sim ν S a w):Sim ν S a w' :=
 ⟨f,H.len,fun i=>(H.tmps i).ckeep K (c i),H.heap.ckeep K e d⟩
def Om {B:Nat} (H:HR ν h w) (l:afb B ν h) {k:Nat} {o:Obj} (O:B<=k) (f:w.heap[k]?=some o) (x:o.isCells=false):¬uM ν h k:=by
 rintro⟨id,y,h2⟩;have j:=H.blk id;have G:=l.na id;have E:=l.nf id;have D:=l.ni id;have l:=l.lt id
 cases a:lkB h id with
 |dead=>rw[a] at y; cases y
 |cells cs =>
  rw[a] at j;obtain⟨b,c,e,d,A,_⟩:=j;rw[d] at h2;cases h2;rw[A] at f; cases f; cases x
 |row t g fz xs =>
  rw[a] at j y
  cases fz with
  |true=>cases y
  |false =>
   obtain⟨base,cap,d,_,z⟩:=j;rw[d] at h2;rcases z with⟨p,_⟩|⟨b,off,c,e,p,m,_⟩
   ·rw[p] at h2; cases h2
   ·rw[p] at h2;cases h2;rw[m] at f; cases f; cases x
 |map K v es =>
  rw[a] at j;obtain⟨b,r,I,d,A,_⟩:=j;have:=l K v es b a d;rw[d] at h2;cases h2;omega
 |deep K g xss =>
  rw[a] at j;obtain⟨base,cap,us,d,A,_,z,p⟩:=j;rw[d] at h2;obtain⟨u,C,hb⟩:=oC.1 h2;rcases cW.1 C with rfl|C
  ·rcases z with⟨rfl,_⟩|⟨b,off,c,e,rfl,m,_⟩
   ·cases hb
   ·cases hb;rw[m] at f; cases f; cases x
  ·obtain⟨i,hi,rfl⟩:=dh.1 C;obtain⟨xs,_,J,L,N,_,m⟩:=p.get' (cI hi);rw[N] at hb;rcases m with⟨rfl,_⟩|⟨b,off,c,e,rfl,M,_⟩
   ·cases hb
   ·cases hb;rw[M] at f; cases f; cases x
 |acc t xs=>exact absurd a (G _ _)
 |fns es=>exact absurd a (E _)
 |iter s q=>exact absurd a (D _ _)
def FQ {B m:Nat} (H:HR ν h w) (c:afb B ν h) (e:Ev m ν h w ν' h' w'):KeepsFrom B w w' :=
 ⟨e.size,fun k o d a b=>(e.keep k (à a) (Om H c d a b)).1.trans a⟩
end
section
variable {F:Fence} {n:Nat} {P:Program} {w:World}
omit [Ð] in
def Lz {α:Type} {g:Operand} {ps:Array Tmp} {assign body:Code} {Q:Exit->Act->World->Prop} {a:Act}
 (hro:F.round=none) (h1:1<=n) {gf:Nat} {lb:Array Value} (hg:a.eval g=.func (.func gf) #[] lb) (hFg:F.fn gf) (eg:∀args w,(callFunc gf args).run P w=.ok (.enter gf args) w)
 {encs:α->Array Value} {Kp:World->World->Prop} {S Sp:AS α->Prop} {N:Nat} {w0:World} (hseq:SeqStopsK F (n-1) P gf lb encs Kp S Sp N w0)
 (hKt:∀{A B C:World},Kp A B->Kp B C->Kp A C) (hKb:∀(W:World) (l:Nat) (o o':Obj),w.heap.size<=l->W.heap[l]?=some o->o.isCells=false->o.isWalk=false->Kp W (W.putObj l o')) (hb0:Below w0.heap.size w0 w) (hps:∀x,(encs x).size=ps.size)
 (I:AS α->World->Prop) (hI:OwnFrom w.heap.size I) (h0:I [] w)
 (hround:∀(l:Nat) (pre:AS α) (x:α) (W:World),w.heap.size<=l->(∃r,W.heap[l]?=some (.loop r))->I pre W->pre.length<N ->
  assign.wpIn (F.inRound l) (n-1-1) P (Exit.then (fun a' Wa=>KeepsFrom w.heap.size W Wa/\∀r',(∃r,Wa.heap[l]?=some (.loop r)) ->
   body.wpIn (F.inRound l) (n-1-1) P (Exit.then (fun _ W3=>KeepsFrom w.heap.size (Wa.putObj l (.loop r')) W3/\Kp W W3/\I (pre++[x]) W3) (fun _ _ _=>False)) a' (Wa.putObj l (.loop r'))) (fun _ _ _=>False))
   {tmps:=(ps.zip (encs x)).foldl (fun t (p,v)=>t.setIfInBounds p v) a.tmps,defers:=[]} W)
 (hdone:∀(D:Nat) (xs:AS α) (W:World),w.heap.size<=D->S xs->I xs W->W.heap[D]?=some (.deferred (some []))->Q .normal {a with defers:={target:=.collected D,args:=#[]}::a.defers} W) :
 (Code.rangeFunc g ps assign body).wpIn F n P Q a w:=by
 refine wpIn_rangeFunc ?_;intro fn hfn;rw[hro];obtain⟨rec,hrec⟩:∃rec:LoopState->AN Code->Loop,rec=fun st pe=>{state:=st,pending:=pe,fn,tmps:=a.tmps,params:=ps,assign,body,defers:=w.heap.size}:=⟨_,rfl⟩;obtain⟨W1,hW1⟩:∃W1,(w.alloc (.deferred (some []))).alloc (.loop (rec .ready none))=W1:=⟨_,rfl⟩
 have hL1:W1.heap[w.heap.size+1]?=some (.loop (rec .ready none)):=by
  rw[<-hW1]; have:=World.alloc_heap_new (w.alloc (.deferred (some []))) (.loop (rec .ready none)); rwa [World.size_alloc] at this
 have hK1:W1.heap[w.heap.size]?=some (.deferred (some [])):=by
  rw[<-hW1]; exact(Below.heap_alloc _ _ _ (by simp)).trans (World.alloc_heap_new w _)
 have hI1:I [] W1:=by rw[<-hW1]; exact hI.alloc _ (hI.alloc _ h0)
 have hb1:Below w0.heap.size w0 W1:=by
  rw[<-hW1]; exact hb0.trans ((((Below.refl _ w).alloc (cJ _) _).alloc (by simp) _).mono hb0.size)
 refine⟨w.heap.size+1,[{target:=.collected w.heap.size,args:=#[]}],W1,{target:=.fn (.func gf) lb,args:=#[.func (.yield (w.heap.size+1)) #[] #[]]},W1,gf,
  #[.func (.yield (w.heap.size+1)) #[] #[]]++lb,W1,?_,?_,?_,?_,fun _=>h1,?_⟩
 ·rw[<-hW1,hrec]; exact run_enterLoop_outer _ _ _ _ _
 ·simp only[resolve,hg];simp[go_sem]
 ·intro f' hf'; simp[Target.leads] at hf'; subst hf'; exact hFg
 ·simp[invoke,go_sem,eg]
 ·have hnw:∀{A B:World} {row:AN Nat},(∀r,row=some r->W1.heap.size<=r/\∃o:Obj,A.heap[r]?=some o/\o.isWalk=true)->(∀r,row=some r->w.heap.size<=r/\∃o:Obj,A.heap[r]?=some o/\o.isCells=false) :=
   fun hr r e=>by obtain⟨hB,o,ho,hw⟩:=hr r e; exact⟨by rw[<-hW1] at hB; simp at hB; omega,o,ho,Obj.not_cells_of_walk hw⟩
  refine(hseq (w.heap.size+1)
   (fun pre W=>I pre W/\W.heap[w.heap.size+1]?=some (.loop (rec .ready none))/\W.heap[w.heap.size]?=some (.deferred (some [])))
   (fun _ _=>False)
   W1 hb1
   (fun s A B row hs hg' hr=>⟨hI s A B row hs.1 hg' (hnw (B:=B) hr),(grownBy_keeps hg' (fun r e=>(hr r e).2) hs.2.1 rfl).trans hs.2.1,(grownBy_keeps hg' (fun r e=>(hr r e).2) hs.2.2 rfl).trans hs.2.2⟩)
   (fun s A B row hs _ _=>hs)
   ?_ ⟨hI1,hL1,hK1⟩).mono ?_
  ·rintro pre x W ⟨hi,hl,hk⟩ hlen;have hy:=run_yield (P:=P) (args:=encs x) hl (by rw[hrec]; exact hps x);rw[hrec] at hy;refine⟨fn,_,assign,body,hy,roundIn_of_wpIn hfn (wpIn_mono (hround _ pre x W (by omega) ⟨_,hl⟩ hi hlen) ?_)⟩;clear hy;intro e a' Wa ha
   cases e with
   |normal =>
    obtain⟨hkfa,hbody⟩:=ha;have hla:=hkfa.same _ _ (by omega) hl rfl;have hka:=hkfa.same _ _ (cJ _) hk rfl;have hlt:w.heap.size+1<Wa.heap.size:=(ee.1 hla).1;refine⟨_,run_beginRound hla (by rw[hrec]),?_⟩;have hl2:(Wa.putObj (w.heap.size+1) (.loop {rec .ready none with state:=.busy})).heap[w.heap.size+1]?=some (.loop {rec .ready none with state:=.busy}):=World.putObj_heap_same hlt;have hk2:(Wa.putObj (w.heap.size+1) (.loop {rec .ready none with state:=.busy})).heap[w.heap.size]?=some (.deferred (some [])):=(World.putObj_heap_other (by omega)).trans hka;refine wpIn_mono (hbody _ ⟨_,hla⟩) ?_;rintro e a3 W3 hp
    cases e with
    |normal =>
     obtain⟨hk3,hkp3,hi3⟩:=hp;have hl3:=hk3.same _ _ (by omega) hl2 rfl;have hr:=run_endRound (P:=P) none hl3;rw[hrec] at hr hl3;refine⟨_,_,hr,.inl ⟨rfl,⟨hI.putObj _ hi3 (by omega) hl3 rfl,?_,(World.putObj_heap_other (by omega)).trans (hk3.same _ _ (cJ _) hk2 rfl)⟩,hKt hkp3 (hKb _ _ _ _ (by omega) hl3 rfl rfl)⟩⟩;rw[hrec];exact World.putObj_heap_same (ee.1 hl3).1
    |_=>exact hp.elim
   |_=>exact ha.elim
  ·rintro e W2 ⟨⟨v,rfl⟩,(⟨xs,hS,hi,hl,hk⟩|⟨pre,hSp,hf⟩)⟩
   ·exact⟨none,_,by have:=run_endLoop (P:=P) hl (by rw[hrec]; simp); rw[hrec] at this; exact this,hdone _ xs _ (cJ _) hS (hI.putObj _ hi (by omega) hl rfl) ((World.putObj_heap_other (by omega)).trans hk)⟩
   ·exact hf.elim
end
def preC:Nat->Code->Code
 |0,.seq (.seq a _) _=>a
 |n+1,.seq a b=>.seq a (preC n b)
 |_,c=>c
def rfC:Nat->Code->Code
 |0,.seq (.seq _ r) _=>r
 |n+1,.seq _ b=>rfC n b
 |_,c=>c
def postC:Nat->Code->Code
 |0,.seq _ b=>b
 |n+1,.seq _ b=>postC n b
 |_,c=>c
def O4:Nat->Code->Bool
 |0,.seq (.seq _ _) _=>true
 |n+1,.seq _ b=>O4 n b
 |_,_=>false
def rfA:Code->Code
 |.block _ (.rangeFunc _ _ a _)=>a
 |_=>.skip
def rfB:Code->Code
 |.block _ (.rangeFunc _ _ _ b)=>b
 |_=>.skip
def YF:∀(N:Nat) (c:Code) (bid:Nat) {z:Nat×LI},O4 N c=true->z∈Þ bid (postC N c)->z∈Þ bid c
 |0,.seq (.seq _ _) _,_,_,_,d=>dI _ d
 |N+1,.seq a b,bid,z,h,d=>dI _ (YF N b bid h d)
variable {ρ:Type}
def matK (T:Tpl) (pin:Nat) (cs vs:AS Ty) (k:Val (tyL cs)->Val (tyL vs)->AN ρ) (e:Exit) (S:St):AN ρ:=match e with
 |.normal=>match pn T pin cs vs S with
  |some (p,v)=>k p v
  |none=>none
 |_=>none
def matR (T:Tpl) (pin:Nat) (vs:AS Ty) (k:Val (tyL vs)->AN ρ) (e:Exit) (S:St):AN ρ:=match e with
 |.ret=>match pn T pin [] vs S with
  |some (_,v)=>k v
  |none=>none
 |_=>none
def acG {T:Tpl} {pin:Nat} {vs:AS Ty} {k:Val (tyL vs)->AN ρ} {e:Exit} {S:St} {r:ρ} (h:matR T pin vs k e S=some r):e=.ret/\∃v,pn T pin [] vs S=some ((),v)/\k v=some r:=by
 unfold matR at h
 split at h<;>try (cases h; done)
 split at h<;>try (cases h; done)
 rename_i p v a;exact⟨rfl,v,a,h⟩
def Bj {T:Tpl} {pin:Nat} {cs vs:AS Ty} {k:Val (tyL cs)->Val (tyL vs)->AN ρ} {e:Exit} {S:St} {r:ρ} (h:matK T pin cs vs k e S=some r):e=.normal/\∃p v,pn T pin cs vs S=some (p,v)/\k p v=some r:=by
 unfold matK at h
 split at h<;>try (cases h; done)
 split at h<;>try (cases h; done)
 rename_i p v a;exact⟨rfl,p,v,a,h⟩
section
variable {ν:Nat->Value} {w:World}
def peelN (d:Ð.Q=none) {E:Env ρ} {call:AS Nat->Bool->Nat->AS AV->AS Blk->(AV->AS Blk->AN ρ)->AN ρ} {L:Nat} (s:jS E L call) (t:nh E L call) (C:E.joins=fun _ _ _ _=>none) {fid:Nat} {path:AS Nat} (m:path.length+2=L) {bid n:Nat} {K:Exit->St->AN ρ} {r:ρ} {Q:Exit->Act->World->Prop} (p:∀e S,e≠.normal->K e S≠some r) :
 ∀(N:Nat) (c:Code) (S:St) (ν:Nat->Value) (a:Act) (w:World),O4 N c=true->(∀z∈Þ bid c,ng E path fid z.1 z.2)->goC E call fid path 0 bid (preC N c) S K=some r->Sim ν S a w ->
  (∀ν' f g w',Sim ν' f g w'->Ev 0 ν S.h w ν' f.h w'->K .normal f=some r->(rfC N c).wpIn Fence.wide n E.P (Exit.then ((postC N c).wpIn Fence.wide n E.P Q) Q) g w')->c.wpIn Fence.wide n E.P Q a w
 |0,.seq (.seq x y) z,S,ν,a,w,_,k,e,H,o=>by
  have b:=kE s t m x bid S _ ν a w (fun q d=>k q (by simp[Þ,d])) e H (dG _);rw[C4 d] at b;refine wpIn_seq (wpIn_seq (wpIn_wide.2 (wpIn_wide.1 (wpIn_mono b fun v g w' ha=>?_))));obtain⟨ν',f,u,h2,I,G,j⟩:=ha
  cases v with
  |normal=>exact o ν' f g w' u h2 j
  |_=>exact absurd j (p _ _ (by simp))
 |N+1,.seq x c,S,ν,a,w,D,k,e,H,o=>by
  simp only[preC,goC,C] at e;have b:=kE s t m x bid S _ ν a w (fun q d=>k q (by simp[Þ,d])) e H (dG _);rw[C4 d] at b;refine wpIn_seq (wpIn_wide.2 (wpIn_wide.1 (wpIn_mono b fun v g w' ha=>?_)));obtain⟨ν',f,u,h2,I,G,j⟩:=ha
  cases v with
  |normal=>exact peelN d s t C m p N c f ν' g w' D (fun q d=>k q (by simp[Þ,d])) j u fun i B A l O M J=>o i B A l O (h2.trans M (cJ _)) J
  |_=>exact absurd j (p _ _ (by simp))
def Ev.own {m:Nat} {ν ν':Nat->Value} {h h':AS Blk} {w W d:World} {row:AN Nat} (e:Ev m ν h w ν' h' W) (a:W.grownBy d row) (f:∀r,row=some r->w.heap.size<=r):Ev m ν h w ν' h' d :=
 ⟨a.os.trans e.os,a.tape.trans e.tape,a.output.trans e.output,dc e.size a.size,fun b hb c=>⟨(a.block b (df hb e.size) fun g=>by have:=f b g.symm; omega).trans (e.keep b hb c).1,(e.keep b hb c).2⟩,e.blk⟩
end
end Go.Am
end
