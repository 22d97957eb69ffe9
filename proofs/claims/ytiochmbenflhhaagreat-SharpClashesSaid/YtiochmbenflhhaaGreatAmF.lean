/- lemmas -/
import Derived.Test.YtiochmbenflhhaaGreatAmC
import Derived.RangeFuncNested
import Derived.Test.YtiochmbenflhhaaGreatAmA
set_option linter.all false
set_option linter.unusedSectionVars false
set_option linter.unusedVariables false
set_option linter.unusedSimpArgs false
noncomputable section
namespace Go.Am
open Go.RowKit
def mfT:Ty→Bool
 |.map _ _=>false
 |.slice t=>mfT t
 |.ptr t=>mfT t
 |.pair a b=>mfT a&&mfT b
 |_=>true
def mfV0:AV→Bool
 |.slc t _=>mfT t
 |.mp _ _ _=>false
 |.eptr t _ _=>mfT t
 |_=>true
def mfV1:AV→Bool
 |.fn _ a b=>a.all mfV0&&b.all mfV0
 |a=>mfV0 a
def mfV2:AV→Bool
 |.agg cs=>cs.all mfV1
 |a=>mfV1 a
def mfV3:AV→Bool
 |.tup cs=>cs.all mfV2
 |a=>mfV2 a
def mfB:Blk→Bool
 |.dead=>true
 |.cells cs=>cs.all mfV1
 |.row t _ _ _=>mfT t
 |.map k v _=>mfT k&&mfT v
 |.deep _ _ _=>true
structure Ρ (w w':World):Prop where
 size:w.heap.size≤w'.heap.size
 same:∀(b:Nat) (c:Array Value) (e:TypeId) (r:Nat×Nat),w.heap[b]?=some (.cells c e r)→w'.heap[b]?=some (.cells c e r)
section
variable {w w':World}
def Ρ.cell (K:Ρ w w') {a:Addr} {v:Value} (h:w.cell? a=some v):w'.cell? a=some v:=by
 unfold World.cell? at h ⊢
 split at h<;>try (cases h; done)
 rename_i c e r hb;rw[K.same _ _ _ _ hb]; exact h
def Ρ.at_ (K:Ρ w w') {b off:Nat} {vs:List Value} (h:ļ w b off vs):ļ w' b off vs:=fun j v hj=>K.cell (h j v hj)
def CR.ckeep (K:Ρ w w') {av:Nat→Prop}:∀{t:Ty} {x:Val t} {vs:List Value},mfT t=true→CR w av t x vs→CR w' av t x vs
 |.unit,_,_,_,h=>h
 |.bool,_,_,_,h=>h
 |.int _,_,_,_,h=>h
 |.str,_,_,_,h=>h
 |.slice t,xs,vs,hn,h=>by
  obtain⟨base,cap,e,hc,h⟩:=h;refine⟨base,cap,e,hc,?_⟩;rcases h with h|⟨b,off,hb,hav,hlt,h⟩
  ·exact .inl h
  ·refine .inr ⟨b,off,hb,hav,dF hlt K.size,fun i x hx=>?_⟩;obtain⟨us,h1,h2⟩:=h i x hx;exact⟨us,CR.ckeep K hn h1,K.at_ h2⟩
 |.map k v,es,vs,hn,h=>by cases hn
 |.ptr t,x,vs,hn,h=>by
  obtain⟨b,off,us,e,hav,hlt,h1,h2⟩:=h;exact⟨b,off,us,e,hav,dF hlt K.size,CR.ckeep K hn h1,K.at_ h2⟩
 |.pair a b,x,vs,hn,h=>by
  obtain⟨us,ws,e,h1,h2⟩:=h;simp only[mfT,cZ] at hn;exact⟨us,ws,e,CR.ckeep K hn.1 h1,CR.ckeep K hn.2 h2⟩
def Ć.mem {α β:Type} {R R':α→β→Prop}:∀{l:List α} {m:List β},(∀a∈l,∀b,R a b→R' a b)→Ć R l m→Ć R' l m
 |[],[],_,_=>trivial
 |a::l,b::m,hr,h=>⟨hr a (by simp) b h.1,Ć.mem (fun a ha=>hr a (by simp[ha])) h.2⟩
 |[],_::_,_,h=>h.elim
 |_::_,[],_,h=>h.elim
end
variable [ô]
section
variable {ν ν':Nat→Value} {h h':List Blk} {w w':World}
def VR0.ckeep (K:Ρ w w') {a:AV} {v:Value} (hn:mfV0 a=true) (hv:VR0 ν h w a v):VR0 ν h w' a v:=by
 cases a with
 |slc t xs=>exact CR.ckeep K (t:=.slice t) hn hv
 |mp k t es=>cases hn
 |eptr t x off =>
  obtain⟨b,o,us,h1,h2,h3,h4,h5⟩:=hv;exact⟨b,o,us,h1,h2,dF h3 K.size,CR.ckeep K hn h4,K.at_ h5⟩
 |_=>exact hv
def VR1.ckeep (K:Ρ w w') {a:AV} {v:Value} (hn:mfV1 a=true) (hv:VR1 ν h w a v):VR1 ν h w' a v:=by
 cases hf:a.isFn with
 |true =>
  cases a<;>try cases hf
  obtain⟨fs,cs,h1,h2,h3⟩:=hv;simp only[mfV1,cZ,dN] at hn;exact⟨fs,cs,h1,h2.mem fun a ha _=>VR0.ckeep K (hn.1 a ha),h3.mem fun a ha _=>VR0.ckeep K (hn.2 a ha)⟩
 |false =>
  rw[Tq hf] at hv ⊢;refine VR0.ckeep K ?_ hv
  cases a<;>first|exact hn|cases hf
def VR2.ckeep (K:Ρ w w') {a:AV} {v:Value} (hn:mfV2 a=true) (hv:VR2 ν h w a v):VR2 ν h w' a v:=by
 cases hf:a.isAgg with
 |true =>
  cases a<;>try cases hf
  obtain⟨vs,h1,h2⟩:=hv;simp only[mfV2,dN] at hn;exact⟨vs,h1,h2.mem fun a ha _ hc=>⟨VR1.ckeep K (hn a ha) hc.1,hc.2⟩⟩
 |false =>
  rw[XK hf] at hv ⊢;refine VR1.ckeep K ?_ hv
  cases a<;>first|exact hn|cases hf
def VR.ckeep (K:Ρ w w') {a:AV} {v:Value} (hn:mfV3 a=true) (hv:VR ν h w a v):VR ν h w' a v:=by
 cases hf:a.isTup with
 |true =>
  cases a<;>try cases hf
  obtain⟨vs,h1,h2⟩:=hv;simp only[mfV3,dN] at hn;exact⟨vs,h1,h2.mem fun a ha _=>VR2.ckeep K (hn a ha)⟩
 |false =>
  rw[Lg hf] at hv ⊢;refine VR2.ckeep K ?_ hv
  cases a<;>first|exact hn|cases hf
def HR.ckeep (K:Ρ w w') (hm:∀id k v es b,lkB h id=.map k v es→ν id=.map (some b)→w'.heap[b]?=w.heap[b]?) (hn:∀id,mfB (lkB h id)=true) (H:HR ν h w):HR ν h w':=by
 refine⟨fun id=>?_,H.inj,fun b hb=>dF (H.ghlt b hb) K.size,H.ghne⟩;have hB:=H.blk id;have hn:=hn id;have hm:=hm id
 cases hl:lkB h id with
 |dead=>trivial
 |cells cs =>
  rw[hl] at hB hn;obtain⟨b,c,e,h1,h2,h3⟩:=hB;simp only[mfB,dN] at hn;exact⟨b,c,e,h1,K.same _ _ _ _ h2,h3.mem fun a ha _ hc=>⟨VR1.ckeep K (hn a ha) hc.1,hc.2⟩⟩
 |row t g fz xs =>
  rw[hl] at hB hn
  cases fz with
  |true=>exact CR.ckeep K (t:=.slice t) hn hB
  |false =>
   obtain⟨base,cap,h1,h2,h3⟩:=hB;refine⟨base,cap,h1,h2,?_⟩;rcases h3 with h3|⟨b,off,c,e,h4,h5,h6,h7⟩
   ·exact .inl h3
   ·refine .inr ⟨b,off,c,e,h4,K.same _ _ _ _ h5,h6,fun i x hx=>?_⟩;obtain⟨us,q1,q2⟩:=h7 i x hx;exact⟨us,CR.ckeep K hn q1,K.at_ q2⟩
 |map k v es =>
  rw[hl] at hB hn;obtain⟨b,entries,clock,h1,h2,h3,h4⟩:=hB;simp only[mfB,cZ] at hn;refine⟨b,entries,clock,h1,(hm k v es b hl h1).trans h2,h3,fun i x hx=>?_⟩;obtain⟨m,us,q1,q2,q3,q4⟩:=h4 i x hx;exact⟨m,us,q1,CR.ckeep K hn.1 q2,CR.ckeep K hn.2 q3,q4⟩
 |deep k g xss =>
  rw[hl] at hB;obtain⟨base,cap,us,h1,h2,h3,h4,h5⟩:=hB;refine⟨base,cap,us,h1,h2,h3,?_,h5.mono fun xs u hr=>?_⟩
  ·rcases h4 with h4|⟨b,off,c,e,q1,q2,q3⟩
   ·exact .inl h4
   ·exact .inr ⟨b,off,c,e,q1,K.same _ _ _ _ q2,q3⟩
  ·obtain⟨base2,cap2,q1,q2,q3⟩:=hr;refine⟨base2,cap2,q1,q2,?_⟩;rcases q3 with q3|⟨b,off,c,e,q4,q5,q6⟩
   ·exact .inl q3
   ·exact .inr ⟨b,off,c,e,q4,K.same _ _ _ _ q5,q6⟩
def aoX (B:Nat) (ν:Nat→Value) (h:List Blk):Prop:=∀id k v es b,lkB h id=.map k v es→ν id=.map (some b)→b<B
def SY {B:Nat} {row:Option Nat} (hg:w.grownBy w' row) (hr:∀r,row=some r→B≤r∧∃o:Obj,w.heap[r]?=some o∧o.isCells=false):Ρ w w' :=
 ⟨hg.size,fun b c e r hb=>(hg.block b (ē hb) fun e'=>by obtain⟨_,o,ho,hc⟩:=hr b e'.symm; rw[hb] at ho; cases ho; cases hc).trans hb⟩
def Sim.ckeep {S:St} {a:Act} (K:Ρ w w') (hm:∀id k v es b,lkB S.h id=.map k v es→ν id=.map (some b)→w'.heap[b]?=w.heap[b]?) (hn:∀id,mfB (lkB S.h id)=true) (ht:∀i,mfV3 (lk S.t i)=true) (H:Sim ν S a w):Sim ν S a w' :=
 ⟨H.defers,H.len,fun i=>(H.tmps i).ckeep K (ht i),H.heap.ckeep K hm hn⟩
def W7 {B:Nat} (H:HR ν h w) (hm:aoX B ν h) {k:Nat} {o:Obj} (hB:B≤k) (hk:w.heap[k]?=some o) (ho:o.isCells=false):¬aie ν h k:=by
 rintro⟨id,h1,h2⟩;have hR:=H.blk id;have hm:=hm id
 cases hl:lkB h id with
 |dead=>rw[hl] at h1; cases h1
 |cells cs =>
  rw[hl] at hR;obtain⟨b,c,e,q1,q2,_⟩:=hR;rw[q1] at h2;cases h2;rw[q2] at hk; cases hk; cases ho
 |row t g fz xs =>
  rw[hl] at hR h1
  cases fz with
  |true=>cases h1
  |false =>
   obtain⟨base,cap,q1,_,q3⟩:=hR;rw[q1] at h2;rcases q3 with⟨q4,_⟩|⟨b,off,c,e,q4,q5,_⟩
   ·rw[q4] at h2; cases h2
   ·rw[q4] at h2;cases h2;rw[q5] at hk; cases hk; cases ho
 |map k' v es =>
  rw[hl] at hR;obtain⟨b,entries,clock,q1,q2,_⟩:=hR;have:=hm k' v es b hl q1;rw[q1] at h2;cases h2;omega
 |deep k' g xss =>
  rw[hl] at hR;obtain⟨base,cap,us,q1,q2,_,q3,q4⟩:=hR;rw[q1] at h2;obtain⟨u,hu,hb⟩:=pT.1 h2;rcases di.1 hu with rfl|hu
  ·rcases q3 with⟨rfl,_⟩|⟨b,off,c,e,rfl,q5,_⟩
   ·cases hb
   ·cases hb;rw[q5] at hk; cases hk; cases ho
  ·obtain⟨i,hi,rfl⟩:=dl.1 hu;obtain⟨xs,_,base2,cap2,e2,_,q5⟩:=q4.get' (cX hi);rw[e2] at hb;rcases q5 with⟨rfl,_⟩|⟨b,off,c,e,rfl,q6,_⟩
   ·cases hb
   ·cases hb;rw[q6] at hk; cases hk; cases ho
def L4 {B m:Nat} (H:HR ν h w) (hm:aoX B ν h) (e:Ev m ν h w ν' h' w'):KeepsFrom B w w' :=
 ⟨e.size,fun k o hB hk ho=>(e.keep k (ē hk) (W7 H hm hB hk ho)).1.trans hk⟩
end
section
variable {F:Fence} {n:Nat} {P:Program} {w:World}
omit [ô] in
def TJ {α:Type} {g:Operand} {ps:Array Tmp} {assign body:Code} {Q:Exit→Act→World→Prop} {a:Act}
 (hro:F.round=none) (h1:1≤n) {gf:Nat} {lb:Array Value} (hg:a.eval g=.func (.func gf) #[] lb) (hFg:F.fn gf) (eg:∀args w,(callFunc gf args).run P w=.ok (.enter gf args) w)
 {encs:α→Array Value} {Kp:World→World→Prop} {S Sp:List α→Prop} {N:Nat} {w0:World} (hseq:SeqStopsK F (n-1) P gf lb encs Kp S Sp N w0)
 (hKt:∀{A B C:World},Kp A B→Kp B C→Kp A C) (hKb:∀(W:World) (l:Nat) (o o':Obj),w.heap.size≤l→W.heap[l]?=some o→o.isCells=false→o.isWalk=false→Kp W (W.putObj l o')) (hb0:Below w0.heap.size w0 w) (hps:∀x,(encs x).size=ps.size)
 (I:List α→World→Prop) (hI:OwnFrom w.heap.size I) (h0:I [] w)
 (hround:∀(l:Nat) (pre:List α) (x:α) (W:World),w.heap.size≤l→(∃r,W.heap[l]?=some (.loop r))→I pre W→pre.length<N →
  assign.wpIn (F.inRound l) (n-1-1) P (Exit.then (fun a' Wa=>KeepsFrom w.heap.size W Wa∧∀r',(∃r,Wa.heap[l]?=some (.loop r)) →
   body.wpIn (F.inRound l) (n-1-1) P (Exit.then (fun _ W3=>KeepsFrom w.heap.size (Wa.putObj l (.loop r')) W3∧Kp W W3∧I (pre++[x]) W3) (fun _ _ _=>False)) a' (Wa.putObj l (.loop r'))) (fun _ _ _=>False))
   {tmps:=(ps.zip (encs x)).foldl (fun t (p,v)=>t.setIfInBounds p v) a.tmps,defers:=[]} W)
 (hdone:∀(D:Nat) (xs:List α) (W:World),w.heap.size≤D→S xs→I xs W→W.heap[D]?=some (.deferred (some []))→Q .normal {a with defers:={target:=.collected D,args:=#[]}::a.defers} W) :
 (Code.rangeFunc g ps assign body).wpIn F n P Q a w:=by
 refine wpIn_rangeFunc ?_;intro fn hfn;rw[hro];obtain⟨rec,hrec⟩:∃rec:LoopState→Option Code→Loop,rec=fun st pe=>{state:=st,pending:=pe,fn,tmps:=a.tmps,params:=ps,assign,body,defers:=w.heap.size}:=⟨_,rfl⟩;obtain⟨W1,hW1⟩:∃W1,(w.alloc (.deferred (some []))).alloc (.loop (rec .ready none))=W1:=⟨_,rfl⟩
 have hL1:W1.heap[w.heap.size+1]?=some (.loop (rec .ready none)):=by
  rw[←hW1]; have:=World.alloc_heap_new (w.alloc (.deferred (some []))) (.loop (rec .ready none)); rwa [World.size_alloc] at this
 have hK1:W1.heap[w.heap.size]?=some (.deferred (some [])):=by
  rw[←hW1]; exact(Below.heap_alloc _ _ _ (by simp)).trans (World.alloc_heap_new w _)
 have hI1:I [] W1:=by rw[←hW1]; exact hI.alloc _ (hI.alloc _ h0)
 have hb1:Below w0.heap.size w0 W1:=by
  rw[←hW1]; exact hb0.trans ((((Below.refl _ w).alloc (cY _) _).alloc (by simp) _).mono hb0.size)
 refine⟨w.heap.size+1,[{target:=.collected w.heap.size,args:=#[]}],W1,{target:=.fn (.func gf) lb,args:=#[.func (.yield (w.heap.size+1)) #[] #[]]},W1,gf,
  #[.func (.yield (w.heap.size+1)) #[] #[]]++lb,W1,?_,?_,?_,?_,fun _=>h1,?_⟩
 ·rw[←hW1,hrec]; exact run_enterLoop_outer _ _ _ _ _
 ·simp only[resolve,hg];simp[go_sem]
 ·intro f' hf'; simp[Target.leads] at hf'; subst hf'; exact hFg
 ·simp[invoke,go_sem,eg]
 ·have hnw:∀{A B:World} {row:Option Nat},(∀r,row=some r→W1.heap.size≤r∧∃o:Obj,A.heap[r]?=some o∧o.isWalk=true)→(∀r,row=some r→w.heap.size≤r∧∃o:Obj,A.heap[r]?=some o∧o.isCells=false) :=
   fun hr r e=>by obtain⟨hB,o,ho,hw⟩:=hr r e; exact⟨by rw[←hW1] at hB; simp at hB; omega,o,ho,Obj.not_cells_of_walk hw⟩
  refine(hseq (w.heap.size+1)
   (fun pre W=>I pre W∧W.heap[w.heap.size+1]?=some (.loop (rec .ready none))∧W.heap[w.heap.size]?=some (.deferred (some [])))
   (fun _ _=>False)
   W1 hb1
   (fun s A B row hs hg' hr=>⟨hI s A B row hs.1 hg' (hnw (B:=B) hr),(grownBy_keeps hg' (fun r e=>(hr r e).2) hs.2.1 rfl).trans hs.2.1,(grownBy_keeps hg' (fun r e=>(hr r e).2) hs.2.2 rfl).trans hs.2.2⟩)
   (fun s A B row hs _ _=>hs)
   ?_ ⟨hI1,hL1,hK1⟩).mono ?_
  ·rintro pre x W ⟨hi,hl,hk⟩ hlen;have hy:=run_yield (P:=P) (args:=encs x) hl (by rw[hrec]; exact hps x);rw[hrec] at hy;refine⟨fn,_,assign,body,hy,roundIn_of_wpIn hfn (wpIn_mono (hround _ pre x W (by omega) ⟨_,hl⟩ hi hlen) ?_)⟩;clear hy;intro e a' Wa ha
   cases e with
   |normal =>
    obtain⟨hkfa,hbody⟩:=ha;have hla:=hkfa.same _ _ (by omega) hl rfl;have hka:=hkfa.same _ _ (cY _) hk rfl;have hlt:w.heap.size+1<Wa.heap.size:=(eD.1 hla).1;refine⟨_,run_beginRound hla (by rw[hrec]),?_⟩;have hl2:(Wa.putObj (w.heap.size+1) (.loop {rec .ready none with state:=.busy})).heap[w.heap.size+1]?=some (.loop {rec .ready none with state:=.busy}):=World.putObj_heap_same hlt;have hk2:(Wa.putObj (w.heap.size+1) (.loop {rec .ready none with state:=.busy})).heap[w.heap.size]?=some (.deferred (some [])):=(World.putObj_heap_other (by omega)).trans hka;refine wpIn_mono (hbody _ ⟨_,hla⟩) ?_;rintro e a3 W3 hp
    cases e with
    |normal =>
     obtain⟨hk3,hkp3,hi3⟩:=hp;have hl3:=hk3.same _ _ (by omega) hl2 rfl;have hr:=run_endRound (P:=P) none hl3;rw[hrec] at hr hl3;refine⟨_,_,hr,.inl ⟨rfl,⟨hI.putObj _ hi3 (by omega) hl3 rfl,?_,(World.putObj_heap_other (by omega)).trans (hk3.same _ _ (cY _) hk2 rfl)⟩,hKt hkp3 (hKb _ _ _ _ (by omega) hl3 rfl rfl)⟩⟩;rw[hrec];exact World.putObj_heap_same (eD.1 hl3).1
    |_=>exact hp.elim
   |_=>exact ha.elim
  ·rintro e W2 ⟨⟨v,rfl⟩,(⟨xs,hS,hi,hl,hk⟩|⟨pre,hSp,hf⟩)⟩
   ·exact⟨none,_,by have:=run_endLoop (P:=P) hl (by rw[hrec]; simp); rw[hrec] at this; exact this,hdone _ xs _ (cY _) hS (hI.putObj _ hi (by omega) hl rfl) ((World.putObj_heap_other (by omega)).trans hk)⟩
   ·exact hf.elim
end
def preC:Nat→Code→Code
 |0,.seq (.seq a _) _=>a
 |n+1,.seq a b=>.seq a (preC n b)
 |_,c=>c
def rfC:Nat→Code→Code
 |0,.seq (.seq _ r) _=>r
 |n+1,.seq _ b=>rfC n b
 |_,c=>c
def postC:Nat→Code→Code
 |0,.seq _ b=>b
 |n+1,.seq _ b=>postC n b
 |_,c=>c
def XR:Nat→Code→Bool
 |0,.seq (.seq _ _) _=>true
 |n+1,.seq _ b=>XR n b
 |_,_=>false
def rfA:Code→Code
 |.block _ (.rangeFunc _ _ a _)=>a
 |_=>.skip
def rfB:Code→Code
 |.block _ (.rangeFunc _ _ _ b)=>b
 |_=>.skip
def ai6:∀(N:Nat) (c:Code) (bid:Nat) {z:Nat×Code},XR N c=true→z∈î bid (postC N c)→z∈î bid c
 |0,.seq (.seq _ _) _,_,_,_,hz=>eh _ hz
 |N+1,.seq a b,bid,z,h,hz=>eh _ (ai6 N b bid h hz)
variable {ρ:Type}
def matK (T:Tpl) (pin:Nat) (cs vs:List Ty) (k:Val (tyL cs)→Val (tyL vs)→Option ρ) (e:Exit) (S:St):Option ρ:=match e with
 |.normal=>match Cb T pin cs vs S with
  |some (p,v)=>k p v
  |none=>none
 |_=>none
def matR (T:Tpl) (pin:Nat) (vs:List Ty) (k:Val (tyL vs)→Option ρ) (e:Exit) (S:St):Option ρ:=match e with
 |.ret=>match Cb T pin [] vs S with
  |some (_,v)=>k v
  |none=>none
 |_=>none
def amN {T:Tpl} {pin:Nat} {vs:List Ty} {k:Val (tyL vs)→Option ρ} {e:Exit} {S:St} {r:ρ} (h:matR T pin vs k e S=some r):e=.ret∧∃v,Cb T pin [] vs S=some ((),v)∧k v=some r:=by
 unfold matR at h
 split at h<;>try (cases h; done)
 split at h<;>try (cases h; done)
 rename_i p v hm;exact⟨rfl,v,hm,h⟩
def Fy {T:Tpl} {pin:Nat} {cs vs:List Ty} {k:Val (tyL cs)→Val (tyL vs)→Option ρ} {e:Exit} {S:St} {r:ρ} (h:matK T pin cs vs k e S=some r):e=.normal∧∃p v,Cb T pin cs vs S=some (p,v)∧k p v=some r:=by
 unfold matK at h
 split at h<;>try (cases h; done)
 split at h<;>try (cases h; done)
 rename_i p v hm;exact⟨rfl,p,v,hm,h⟩
section
variable {ν:Nat→Value} {w:World}
def peelN (hq:ô.Q=none) {E:Env ρ} {call:List Nat→Bool→Nat→List AV→List Blk→(AV→List Blk→Option ρ)→Option ρ} {L:Nat} (hE:mo E L call) (hD:mE E L call) (hj:E.joins=fun _ _ _ _=>none) {fid:Nat} {path:List Nat} (hp:path.length+2=L) {bid n:Nat} {K:Exit→St→Option ρ} {r:ρ} {Q:Exit→Act→World→Prop} (hK:∀e S,e≠.normal→K e S≠some r) :
 ∀(N:Nat) (c:Code) (S:St) (ν:Nat→Value) (a:Act) (w:World),XR N c=true→(∀z∈î bid c,qQ E path fid z.1 z.2)→goC E call fid path 0 bid (preC N c) S K=some r→Sim ν S a w →
  (∀ν' S' a' w',Sim ν' S' a' w'→Ev 0 ν S.h w ν' S'.h w'→K .normal S'=some r→(rfC N c).wpIn Fence.wide n E.P (Exit.then ((postC N c).wpIn Fence.wide n E.P Q) Q) a' w')→c.wpIn Fence.wide n E.P Q a w
 |0,.seq (.seq x y) z,S,ν,a,w,_,hL,e,H,hn=>by
  have hgo:=l7 hE hD hp x bid S _ ν a w (fun q hq=>hL q (by simp[î,hq])) e H (eI _);rw[HO hq] at hgo;refine wpIn_seq (wpIn_seq (wpIn_wide.2 (wpIn_wide.1 (wpIn_mono hgo fun e' a' w' ha=>?_))));obtain⟨ν',S',h1,h2,h3,h4,h5⟩:=ha
  cases e' with
  |normal=>exact hn ν' S' a' w' h1 h2 h5
  |_=>exact absurd h5 (hK _ _ (by simp))
 |N+1,.seq x c,S,ν,a,w,hs,hL,e,H,hn=>by
  simp only[preC,goC,hj] at e;have hgo:=l7 hE hD hp x bid S _ ν a w (fun q hq=>hL q (by simp[î,hq])) e H (eI _);rw[HO hq] at hgo;refine wpIn_seq (wpIn_wide.2 (wpIn_wide.1 (wpIn_mono hgo fun e' a' w' ha=>?_)));obtain⟨ν',S',h1,h2,h3,h4,h5⟩:=ha
  cases e' with
  |normal=>exact peelN hq hE hD hj hp hK N c S' ν' a' w' hs (fun q hq=>hL q (by simp[î,hq])) h5 h1 fun ν'' S'' a'' w'' g1 g2 g3=>hn ν'' S'' a'' w'' g1 (h2.trans g2 (cY _)) g3
  |_=>exact absurd h5 (hK _ _ (by simp))
def Ev.own {m:Nat} {ν ν':Nat→Value} {h h':List Blk} {w W W':World} {row:Option Nat} (e:Ev m ν h w ν' h' W) (hg:W.grownBy W' row) (hr:∀r,row=some r→w.heap.size≤r):Ev m ν h w ν' h' W' :=
 ⟨hg.os.trans e.os,hg.tape.trans e.tape,hg.output.trans e.output,dG e.size hg.size,fun b hb hl=>⟨(hg.block b (dF hb e.size) fun e'=>by have:=hr b e'.symm; omega).trans (e.keep b hb hl).1,(e.keep b hb hl).2⟩,e.blk⟩
def HR_ghost {G:Nat→Prop} {D D':List Deferred} {Q Q':Option Nat} {ν:Nat→Value} {h:List Blk} {w:World} (H:@HR ⟨G,D,Q⟩ ν h w):@HR ⟨G,D',Q'⟩ ν h w :=
 @HR.mk ⟨G,D',Q'⟩ ν h w (@HR.blk ⟨G,D,Q⟩ ν h w H) (@HR.inj ⟨G,D,Q⟩ ν h w H) (@HR.ghlt ⟨G,D,Q⟩ ν h w H) (@HR.ghne ⟨G,D,Q⟩ ν h w H)
end
end Go.Am
end

noncomputable section
namespace Go.Am
abbrev ilt (a b:Int):Bool:=decide (a<b)
abbrev ile (a b:Int):Bool:=decide (a≤b)
abbrev igt (a b:Int):Bool:=decide (a>b)
abbrev ige (a b:Int):Bool:=decide (a≥b)
abbrev ieq (a b:Int):Bool:=a==b
abbrev ine (a b:Int):Bool:=a != b
abbrev õ (a b:Int):Bool:=decide (a=b)
abbrev Ö {α:Type} (l:List α):Int:=alF l.length
abbrev ā {α:Type} (l:List α):Int:=(l.length:Int)
section
variable {ρ:Type}
def ck (n:Int) (f:Int→Option ρ):Option ρ:=f (arH n)
def ï {α:Type} (l:List α) (i:Int) (f:α→Option ρ):Option ρ :=
 match decide (0≤i) with
 |true=>match l[i.toNat]? with
  |some e=>f e
  |none=>none
 |false=>none
def Ĩ {α:Type} (l:List α) (i:Nat) (f:α→Option ρ):Option ρ :=
 match l[i]? with
 |some e=>f e
 |none=>none
def abR {k v:Ty} (x:Val k) (l:List (Val k×Val v)) (f:Val v→Option ρ) (g:Option ρ):Option ρ :=
 match tV x l with
 |some y=>f y
 |none=>g
def è (b:Bool) (x:Option ρ):Option ρ:=match b with|true=>x|false=>none
def ifb (b:Bool) (x y:Option ρ):Option ρ:=match b with|true=>x|false=>y
def acn (x:Option (List Int)) (f:Int→Option ρ) (n:Option ρ):Option ρ :=
 Å x fun l=>match l.find? (fun e=>e != 0) with
  |some e=>f e
  |none=>n
def Pe {α β:Type} (f:α→Option β):List α→Option (List β)
 |[]=>some []
 |a::l=>match f a with
  |some b=>match Pe f l with
   |some m=>some (b::m)
   |none=>none
  |none=>none
def xV (n:Nat):List Int:=(List.range n).map fun(i:Nat)=>(i:Int)
end
end Go.Am
end
