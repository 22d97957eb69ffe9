/- lemmas -/
import Derived.Test.YtanjeafjkgllhaaGreatDoorAmA
import Derived.Laws.StructEq
import Derived.ChangeKeysEq
import Derived.Laws.BytesArg
import Derived.Laws.Strings3
import Derived.Laws.DeepStrings4
import Derived.OrdersIn
import Derived.RangeFuncSeq
import Derived.RangeFuncRecord
import Derived.LoopNIn
import Derived.RangeFuncLeaves
set_option linter.all false
noncomputable section
namespace Go.Am
variable [Globs] [Ghost]
section
variable {ν ν':Nat->Value} {h h':rT Blk} {w w':World} {P:Program}
def mB {t:TypeId} {k:Ty} (b:IB P t k=true) :
 (P.underlying t=some .bool/\k=.bool)\/(∃i,P.underlying t=some (.int i)/\k=.int i):=by
 unfold IB at b
 split at b<;>try (cases b; done)
 ·split at b<;>try (cases b; done)
  exact .inl ⟨‹_›,rfl⟩
 ·split at b<;>try (cases b; done)
  have:=eq_of_beq b;subst this;exact .inr ⟨_,‹_›,rfl⟩
def keyVal:(k:Ty)->Val k->Value
 |.bool,b=>.bool b
 |.int i,n=>.int i n
 |.str,s=>.string s
 |_,_=>undef
def CR.keyVal {av:Nat->Prop} {t:TypeId} {k:Ty} {x:Val k} {v:Value} (b:IB P t k=true) (c:CR w av k x [v]):v=keyVal k x:=by
 rcases mB b with⟨_,rfl⟩|⟨i,_,rfl⟩
 all_goals
  have:[v]=[_]:=c;simpa[Am.keyVal] using this
def ain {av:Nat->Prop} {t:TypeId} {k:Ty} {x:Val k} (b:IB P t k=true):CR w av k x [keyVal k x]:=by
 rcases mB b with⟨_,rfl⟩|⟨i,_,rfl⟩<;>exact(rfl:[_]=[_])
def Jh {t:TypeId} {k:Ty} {x:Val k} {empty:Bool} (c:IB P t k=true) (m:Nat):(Instr.checkKey empty (m+1) t (keyVal k x)).run P w=.ok () w:=by
 rcases mB c with⟨b,rfl⟩|⟨i,b,rfl⟩<;>simp[Instr.checkKey,run_underlying b,keyVal]
def C7 {t:TypeId} {k:Ty} (c:IB P t k=true):∃d,P.underlying t=some d/\∀x y:Val k,Instr.sameNow d (keyVal k x) (keyVal k y)=some (jl k x y):=by
 rcases mB c with⟨b,rfl⟩|⟨i,b,rfl⟩
 ·exact⟨_,b,fun _ _=>rfl⟩
 ·refine⟨_,b,fun x y=>?_⟩;simp only[Instr.sameNow,keyVal,jl,if_true];congr 1
def Ents (w:World) (av:Nat->Prop) (k v:Ty) (es:rT (Val k×Val v)) (b:rT MapEntry):Prop :=
 ÿ (fun(e:Val k×Val v) (m:MapEntry)=>m.key=keyVal k e.1/\∃us,CR w av v e.2 us/\m.val=xj v us) es b
def IK {d:TypeDesc} {av:Nat->Prop} {k v:Ty} {x:Val k} (hd:∀y,Instr.sameNow d (keyVal k x) (keyVal k y)=some (jl k x y)):∀(es:rT (Val k×Val v)) (ms:rT MapEntry) (i:Nat),Ents w av k v es ms ->
 (wZ x es=none/\Instr.findNow d (keyVal k x) ms i=some none) \/
 ∃y j us,wZ x es=some y/\Instr.findNow d (keyVal k x) ms i=some (some (i+j,xj v us))/\CR w av v y us/\j<es.length/\(∀b,Vx x b es=es.set j (x,b))/\∃e,es[j]?=some e/\jl k x e.1=true
 |[],[],i,_=>.inl ⟨rfl,rfl⟩
 |[],_::_,_,f=>f.elim
 |_::_,[],_,f=>f.elim
 |e::es,m::ms,i,f=>by
  obtain⟨⟨B,us,h2,A⟩,f⟩:=f;have l:=hd e.1;rw[<-B] at l
  cases c:jl k x e.1 with
  |true =>
   rw[c] at l;exact .inr ⟨e.2,0,us,by simp[wZ,c],by simp[Instr.findNow,l,A],h2,by simp,fun b=>by simp[Vx,c],e,rfl,c⟩
  |false =>
   rw[c] at l;rcases IK hd es ms (i+1) f with⟨q,p⟩|⟨y,j,o,q,p,z,E,u,C,s,r⟩
   ·exact .inl ⟨by simp[wZ,c,q],by simp[Instr.findNow,l,p]⟩
   ·refine .inr ⟨y,j+1,o,by simp[wZ,c,q],by simp[Instr.findNow,l,p]; omega,z,by simp; omega,fun b=>by simp[Vx,c,u],C,by simpa using s,r⟩
def Yn {k v:Ty} {x:Val k} {b:Val v}:∀{es:rT (Val k×Val v)},wZ x es=none->Vx x b es=es++[(x,b)]
 |[],_=>rfl
 |e::es,c=>by
  cases d:jl k x e.1 with
  |true=>simp[wZ,d] at c
  |false=>simp only[wZ,d] at c; simp[Vx,d,Yn c]
def ents (H:HR ν h w) {t:TypeId} {m:AV} {um:Value} {k v:Ty} {es:rT (Val k×Val v)} (B:IB P t k=true) (q:VR ν h w m um) (e:ñ h m=.mp k v es) :
 ∃r,um=.map r/\((r=none/\es=[])\/∃b c d,r=some b/\w.heap[b]?=some (.map c d)/\Ents w (Av ν h) k v es c.toList):=by
 have o:∀(c:Array MapEntry),c.size=es.length->(∀(i:Nat) (e:Val k×Val v),es[i]?=some e->∃(m:MapEntry) (us:rT Value),c[i]?=some m/\CR w (Av ν h) k e.1 [m.key]/\CR w (Av ν h) v e.2 us/\m.val=xj v us) ->
  Ents w (Av ν h) k v es c.toList:=fun c A C=>by
  refine ÿ.of_get (by simpa using A.symm) fun i a b ha hb=>?_;obtain⟨m,us,l,h2,j,f⟩:=C i a ha
  have:b=m:=by simp at hb; rw[l] at hb; exact(Option.some.inj hb).symm
  subst this;exact⟨CR.keyVal B h2,us,j,f⟩
 cases m with
 |mp y x p =>
  simp only[ñ] at e;cases e;obtain⟨r,l,h2⟩:=q;refine⟨r,by simpa using l,?_⟩;rcases h2 with h2|⟨b,c,d,h2,_,j,f,E⟩
  ·exact .inl h2
  ·exact .inr ⟨b,c,d,h2,j,o c f E⟩
 |omp id =>
  obtain⟨G,y,x,p,s,z⟩:=q;simp only[ñ,s] at e;cases e;have u:=H.blk id;rw[s] at u;obtain⟨b,c,d,l,h2,j,f⟩:=u;exact⟨some b,by rw[z,l],.inr ⟨b,c,d,rfl,h2,o c j f⟩⟩
 |own id g=>simp only[ñ] at e; (repeat' split at e)<;>cases e
 |sub id g lo n=>simp only[ñ] at e; (repeat' split at e)<;>cases e
 |_=>simp[ñ] at e
def HG {t:TypeId} {k:Ty} {i:AV} {c:Value} {x:Val k} (d:IB P t k=true) (hi:VR ν h w i c) (e:Ü k [i]=some x):c=keyVal k x:=by
 rcases mB d with⟨_,rfl⟩|⟨j,_,rfl⟩
 ·cases i<;>simp[Ü,ş] at e; subst e; exact hi
 ·cases i<;>try (simp[Ü,ş] at e; done)
  rename_i l n;simp only[Ü,ş] at e
  split at e<;>try (cases e; done)
  rename_i y b
  split at b<;>try (cases b; done)
  rename_i f _;subst f; cases b; cases e; exact hi
def aib (ok:Bool) (y:AV) (b:Bool):rF AV:=match ok with|true=>some (.tup [y,.bool b])|false=>some y
def ah4 {t:TypeId} {m i v:AV} {um N:Value} {ok:Bool} (H:HR ν h w) (e:qo P h t m i ok some=some v) (hm:VR ν h w m um) (hi:VR ν h w i N):∃u,(Instr.lookup t um N ok).run P w=.ok u w/\VR ν h w v u:=by
 unfold qo at e
 split at e<;>try (cases e; done)
 rename_i O et G
 split at e<;>try (cases e; done)
 rename_i k E z hkt het S
 cases s:P.info? et with
 |none=>simp[s] at S
 |some R =>
 cases C:R.zero with
 |none=>simp[s,C] at S
 |some o =>
 simp only[s,C,eV,eJ,Option.some.injEq] at S;subst S
 -- what the run does, once the search is known
 have run:∀(x:Val k) (r:rF Nat) (ms:rT MapEntry),IB P O k=true->N=keyVal k x->um=.map r->(r=none/\ms=[]\/∃b c f,r=some b/\w.heap[b]?=some (.map c f)/\c.toList=ms) ->
  ∀d,P.underlying O=some d ->
  (∀y j,Instr.findNow d (keyVal k x) ms 0=some (some (j,y))->(Instr.lookup t um N ok).run P w=.ok (if ok then .tuple #[y,.bool true] else y) w) /\
  (Instr.findNow d (keyVal k x) ms 0=some none->(Instr.lookup t um N ok).run P w=.ok (if ok then .tuple #[o,.bool false] else o) w):=by
  intro x r ms B U p Y d hd;subst U p;have A:=fun em=>Jh (P:=P) (w:=w) (x:=x) (empty:=em) B 9999;have A:∀em,(Instr.checkKey em 10000 O (keyVal k x)).run P w=.ok () w:=A;rcases Y with⟨rfl,rfl⟩|⟨b,c,f,rfl,hb,rfl⟩
  ·constructor
   ·intro y j J; simp[Instr.findNow] at J
   ·intro J;simp only[Instr.lookup,Sem.run_bind,run_underlying G,Result.andThen_ok,Sem.run_pure,A];simp[Instr.findKey,run_underlying hd,Instr.findNow,zeroValue,typeInfo,s,C]
  ·constructor
   ·intro y j J;simp only[Instr.lookup,Sem.run_bind,run_underlying G,Result.andThen_ok,Sem.run_pure,jc hb,A];simp[Instr.findKey,run_underlying hd,J]
   ·intro J;simp only[Instr.lookup,Sem.run_bind,run_underlying G,Result.andThen_ok,Sem.run_pure,jc hb,A];simp[Instr.findKey,run_underlying hd,J,zeroValue,typeInfo,s,C]
 have L:∀{V:AV},aib ok (cv o) false=some V->VR ν h w V (if ok then .tuple #[o,.bool false] else o):=fun {V} hV=>by
  cases ok with
  |false=>cases hV; exact Z1 o
  |true =>
   cases hV;refine⟨#[o,.bool false],rfl,?_,rfl,trivial⟩;have:=Z1 (ν:=ν) (h:=h) (w:=w) o
   cases G:(cv o).isTup with
   |true=>exact absurd G (by rw[Z0]; simp)
   |false=>rwa [vZ G] at this
 split at e<;>try (cases e; done)
 ·rename_i k' v' es B l
  split at e<;>try (cases e; done)
  rename_i heq _;cases heq
  split at e<;>try (cases e; done)
  rename_i x T;have I:=HG B hi T;obtain⟨d,hd,q⟩:=C7 (P:=P) (t:=O) (k:=k) B;obtain⟨r,p,Y⟩:=ents H B hm l
  have W:∃ms,Ents w (Av ν h) k E es ms/\(r=none/\ms=[]\/∃b c f,r=some b/\w.heap[b]?=some (.map c f)/\c.toList=ms):=by
   rcases Y with⟨rfl,rfl⟩|⟨b,c,f,rfl,hb,hE⟩
   ·exact⟨[],trivial,.inl ⟨rfl,rfl⟩⟩
   ·exact⟨_,hE,.inr ⟨b,c,f,rfl,hb,rfl⟩⟩
  obtain⟨ms,hE,Z⟩:=W;obtain⟨r1,r2⟩:=run x r ms B I p Z d hd;rcases IK (q x) es ms 0 hE with⟨h4,h5⟩|⟨y,j,us,h4,h5,h6,_⟩
  ·have K:(match (wZ x es:rF (Val E)) with|some y=>aib ok (enc E y) true|none=>aib ok (cv o) false)=some v:=e;rw[h4] at K;exact⟨_,r2 h5,L K⟩
  ·have K:(match (wZ x es:rF (Val E)) with|some y=>aib ok (enc E y) true|none=>aib ok (cv o) false)=some v:=e;rw[h4] at K;refine⟨_,r1 _ _ h5,?_⟩;have hv:=Kc h6
   cases ok with
   |false=>cases K; exact hv
   |true =>
    cases K;refine⟨#[xj E us,.bool true],rfl,?_,rfl,trivial⟩
    have G:(enc E y).isTup=false:=by cases E<;>rfl
    rwa [vZ G] at hv
 ·rename_i B l
  split at e<;>try (cases e; done)
  rename_i x T;have I:=HG B hi T;obtain⟨d,hd,q⟩:=C7 (P:=P) (t:=O) (k:=k) B
  have p:um=.map none:=by
   cases m with
   |nilm=>exact hm
   |own id g=>simp only[ñ] at l; (repeat' split at l)<;>cases l
   |sub id g lo n=>simp only[ñ] at l; (repeat' split at l)<;>cases l
   |omp id=>simp only[ñ] at l; (repeat' split at l)<;>cases l
   |_=>simp[ñ] at l
  obtain⟨r1,r2⟩:=run x none [] B I p (.inl ⟨rfl,rfl⟩) d hd;exact⟨_,r2 rfl,L e⟩
def ah3 {t:TypeId} {m i v:AV} {um b:Value} {ok:Bool} (H:HR ν h w) (e:qo P h t m i ok some=some v) (c:VR ν h w m um) (hi:VR ν h w i b):Ŏ P ν h w (Instr.lookup t um b ok) v h:=by
 obtain⟨u,d,h2⟩:=ah4 H e c hi;exact Ŏ.still H d h2
def HH {x:AV} {cs:rT AV} (e:ĝ (acv h x)=some cs):∃vs,ĝ x=some vs/\cs=vs.map (ñ h):=by
 cases x with
 |agg l=>simp only[acv,ĝ,Option.some.injEq] at e; exact⟨l,rfl,e.symm⟩
 |any=>cases e
 |und=>cases e
 |tup=>cases e
 |own id g =>
  refine⟨_,rfl,?_⟩;simp only[acv] at e
  have:ñ h (.own id g)=.any\/∃t xs,ñ h (.own id g)=.slc t xs:=by
   simp only[ñ]; (repeat' split)<;>first|exact .inl rfl|exact .inr ⟨_,_,rfl⟩
  rcases this with b|⟨t,xs,b⟩<;>rw[b] at e<;>cases e
  simp[b]
 |sub id g lo n =>
  refine⟨_,rfl,?_⟩;simp only[acv] at e
  have:ñ h (.sub id g lo n)=.any\/∃t xs,ñ h (.sub id g lo n)=.slc t xs:=by
   simp only[ñ]; (repeat' split)<;>first|exact .inl rfl|exact .inr ⟨_,_,rfl⟩
  rcases this with b|⟨t,xs,b⟩<;>rw[b] at e<;>cases e
  simp[b]
 |omp id =>
  refine⟨_,rfl,?_⟩;simp only[acv] at e
  have:ñ h (.omp id)=.any\/∃k v xs,ñ h (.omp id)=.mp k v xs:=by
   simp only[ñ]; (repeat' split)<;>first|exact .inl rfl|exact .inr ⟨_,_,_,rfl⟩
  rcases this with b|⟨k,v,xs,b⟩<;>rw[b] at e<;>cases e
  simp[b]
 |_=>cases e; exact⟨_,rfl,rfl⟩
def adG {a:AV} {id:Nat} {k v:Ty} {es:rT (Val k×Val v)} (b:lkB h id=.map k v es):lkB (qC h a) id=.map k v es:=by
 have c:∀(j g:Nat) (t:Ty) (fz:Bool) (xs:rT (Val t)),lkB h j=.row t g fz xs->lkB (î h j (.row t g true xs)) id=.map k v es:=fun j g t fz xs d=>by
  by_cases e:id=j
  ·subst e; rw[b] at d; cases d
  ·rw[Ð _ e]; exact b
 cases a<;>try exact b
 all_goals
  simp only[qC]
  split
  ·exact c _ _ _ _ _ ‹_›
  ·exact b
def Wr {id:Nat} {k v:Ty} {es:rT (Val k×Val v)}:∀(as:rT AV) {h:rT Blk},lkB h id=.map k v es->lkB (Bj h as) id=.map k v es
 |[],_,b=>b
 |a::as,_,b=>Wr as (adG b)
def alk {t:TypeId} {k:Ty} (b:IB P t k=true) {x y:Val k} (e:jl k x y=true):x=y:=by
 rcases mB b with⟨_,rfl⟩|⟨j,_,rfl⟩
 ·simpa[jl] using e
 ·simpa[jl] using e
def Xz {t:TypeId} {k:Ty} (b:IB P t k=true) (x:Val k) (m:Nat):Instr.sameBits m (keyVal k x) (keyVal k x)=true:=by
 rcases mB b with⟨_,rfl⟩|⟨j,_,rfl⟩<;>simp[Instr.sameBits,keyVal]
def ÿ.set {α β:Type} {R:α->β->Prop}:∀{l:rT α} {m:rT β} (i:Nat) {a:α} {b:β},ÿ R l m->R a b->ÿ R (l.set i a) (m.set i b)
 |[],[],_,_,_,_,_=>trivial
 |_::_,_::_,0,_,_,h,c=>⟨c,h.2⟩
 |_::_,_::_,i+1,_,_,h,c=>⟨h.1,ÿ.set i h.2 c⟩
 |[],_::_,_,_,_,h,_=>h.elim
 |_::_,[],_,_,_,h,_=>h.elim
def Jv {t:TypeId} {m i x:AV} {um ui E:Value} (H:HR ν h w) (e:ť P h t m i x some=some h') (hm:VR ν h w m um) (hi:VR ν h w i ui) (hx:VR ν h w x E) :
 ∃w',(Instr.mapUpdate t um ui E).run P w=.ok () w'/\HR ν h' w'/\Ev h.length ν h w ν h' w'/\h'.length=h.length:=by
 unfold ť at e
 split at e<;>try (cases e; done)
 rename_i kt et ht
 split at e<;>try (cases e; done)
 rename_i id
 split at e<;>try (cases e; done)
 rename_i k v es hl
 split at e<;>try (cases e; done)
 rename_i hc;simp only[dt,beq_iff_eq] at hc;obtain⟨L,hnm,hagg⟩:=hc
 split at e<;>try (cases e; done)
 rename_i a cs ha hcs
 split at e<;>try (cases e; done)
 rename_i b hb;cases e;obtain⟨vs,z,rfl⟩:=HH hcs;obtain⟨hfe,hfm⟩:=aiy z h;have hcx:=hx.cells z;have hsn:=GV H (hcx.mono fun _ _ q=>q.1) (hfm hnm);obtain⟨e1,H1,hlv⟩:=D2 vs H;rw[hfe];have p:=Wr vs hl;have Z:=ċ hb hsn
 have G:E=xj v E.cells.toList:=by
  unfold xj;rw[<-hagg]
  cases x with
  |agg l=>obtain⟨us,rfl,_⟩:=hx; rfl
  |any=>cases z
  |und=>cases z
  |tup=>cases z
  |_ =>
   rw[Qr ((hx.one rfl rfl).oneCell z)]; rfl
 obtain⟨ho,k2,v2,es2,T,hmv⟩:=hm;rw[hl] at T; cases T;have hB:=H1.blk id;rw[p] at hB;obtain⟨N,f,u,h1,h2,h3,h4⟩:=hB;rw[hmv,h1];have hui:=HG L hi ha;subst hui
 have hE:Ents w (Av ν (Bj h vs)) k v es f.toList:=by
  obtain⟨r,I,C⟩:=ents H1 (m:=.omp id) (um:=.map (some N)) (k:=k) (v:=v) (es:=es) L ⟨rfl,k,v,es,p,h1.symm⟩ (by simp only[ñ,p]);cases I;rcases C with⟨C,_⟩|⟨b',en',cl',C,S,q4⟩
  ·cases C
  ·cases C;rw[h2] at S;cases S;exact q4
 obtain⟨d,hd,J⟩:=C7 (P:=P) (t:=kt) (k:=k) L;have W:id<(Bj h vs).length:=Ν p (by simp)
 -- the map with other f
 have fin:∀(c:Array MapEntry) (o:Nat) (s:rT (Val k×Val v)),Ents w (Av ν (Bj h vs)) k v s c.toList ->
  HR ν (î (Bj h vs) id (.map k v s)) {w with heap:=w.heap.setIfInBounds N (.map c o)} /\
  Ev (Bj h vs).length ν (Bj h vs) w ν (î (Bj h vs) id (.map k v s)) {w with heap:=w.heap.setIfInBounds N (.map c o)}:=by
  intro c o s hE';have K:=å h2
  have A:∀q,q<w.heap.size->((lkB (Bj h vs) id).live=true->¬Ĭ (ν id) q)->({w with heap:=w.heap.setIfInBounds N (.map c o)}:World).heap[q]?=w.heap[q]?:=fun q _ R=>by
   have:N≠q:=fun he=>R (by rw[p]; rfl) (by rw[h1,he]; rfl);simp[eD,this]
  have hV:(Blk.map k v s).live=true->∀q,Ĭ (ν id) q->((lkB (Bj h vs) id).live=true/\Ĭ (ν id) q)\/w.heap.size<=q:=fun _ q R=>.inl ⟨by rw[p]; rfl,R⟩;have ev:=Ev.upd H1 (B:=.map k v s) (V:=ν id) (w':={w with heap:=w.heap.setIfInBounds N (.map c o)}) W rfl rfl rfl (by simp) A hV (by rw[p]; exact⟨⟨s,rfl⟩,Õ _ _ _⟩)
  have O:=HR.upd H1 W ev A hV ⟨N,c,o,(Õ _ _ _).trans h1,by simp[K],by simpa using hE'.length.symm,fun j q hj=>by
   obtain⟨m,I,C,us,S,q4⟩:=hE'.get hj;refine⟨m,us,by simpa using I,?_,CR.keep ev.keepA S,q4⟩
   rw[C]; exact ain L⟩
  rw[kv] at ev O;exact⟨O,ev⟩
 have Y:∀em,(Instr.checkKey em 10000 kt (keyVal k a)).run P w=.ok () w:=fun em=>Jh (P:=P) (w:=w) (x:=a) (empty:=em) L 9999;rcases IK (J a) es f.toList 0 hE with⟨h5,h6⟩|⟨y,j,us,h5,h6,h7,h8,h9,e',h10,h11⟩
 ·rw[Yn h5]
  obtain⟨O,ev⟩:=fin (f.push {key:=keyVal k a,val:=E,born:=u}) (u+1) (es++[(a,b)]) (by
   rw[Array.toList_push]
   exact ÿ.append hE ⟨⟨rfl,_,Z,G⟩,trivial⟩)
  refine⟨_,?_,O,e1.trans ev (by rw[Ż]; exact du _),by rw[Û,Ż]⟩;simp only[Instr.mapUpdate,Sem.run_bind,run_underlying ht,Result.andThen_ok,jc h2,Y];simp[Instr.findKey,run_underlying hd,h6,setObj,Sem.run,h2]
 ·rw[h9];obtain⟨m,I,C,us',S,q4⟩:=hE.get h10
  have q1':f[j]?=some m:=by simpa using I
  obtain⟨O,ev⟩:=fin (f.modify j fun e=>{e with key:=keyVal k a,val:=E}) u (es.set j (a,b)) (by
   rw[Array.toList_modify]
   have:(f.toList.modify j fun e=>{e with key:=keyVal k a,val:=E})=f.toList.set j {m with key:=keyVal k a,val:=E}:=by
    apply List.ext_getElem?
    intro q;rw[List.getElem?_modify,gS]
    by_cases R:j=q
    ·subst R;have K:=(dC.1 I).1;simp only[if_true,I,K];rfl
    ·simp[R]
   rw[this]
   exact ÿ.set j hE ⟨rfl,_,Z,G⟩)
  refine⟨_,?_,O,e1.trans ev (by rw[Ż]; exact du _),by rw[Û,Ż]⟩
  have U:m.key=keyVal k a:=by rw[C,<-alk L h11]
  simp only[Instr.mapUpdate,Sem.run_bind,run_underlying ht,Result.andThen_ok,jc h2,Y];simp only[dW] at h6;have hsb:Instr.sameBits 10000 (keyVal k a) (keyVal k a)=true:=Xz L a 10000;simp[Instr.findKey,run_underlying hd,h6,q1',U,Instr.keyThatStays,hsb,setObj,Sem.run,h2]
end
end Go.Am
end

noncomputable section
namespace Go.Am
variable [Globs] [Ghost]
section
variable {ν ν':Nat->Value} {h h':rT Blk} {w w':World} {P:Program}
def acy {t:TypeId} {n o:Nat} {d:TypeDesc} (hd:P.underlying t=some d) (i:szP P t=some n) (us:Array Value) (k:QQ d=false->n=1) (l:o+n<=us.size) :
 (part t us o).run P w=.ok (aay (QQ d) ((us.toList.drop o).take n)) w:=by
 unfold part;simp only[Sem.run_bind,xw hd,Result.andThen_ok]
 cases e:QQ d with
 |true =>
  simp only[if_true,Sem.run_bind,mi i,Result.andThen_ok,Sem.run_pure,aay];congr 2;apply fo;rw[Array.toList_extract,List.extract_eq_take_drop];congr 1; omega
 |false =>
  have j:=k e;subst j
  have b:o<us.size:=by omega
  have c:us[o]?=some us[o]:=by simp[b]
  have f:us.toList.drop o=us[o]::us.toList.drop (o+1):=by
   rw[eR (by simpa using b)]; simp
  simp[c,aay,f]
def anO:∀(n d:Nat) (t:TypeId) (cs O:rT AV) (rest:rF Bool) (r:Bool),n<=d->anP P n t cs O rest=some r ->
 ∃e c,rest=some c/\r=(e&&c)/\∃D,P.underlying t=some D/\(QQ D=false->cs.length=1)/\∀us ws,ÿ (VRc ν h w) cs us->ÿ (VRc ν h w) O ws->(Op.equalIn d t (aay (QQ D) us) (aay (QQ D) ws)).run P w=.ok e w:=by
 intro n
 induction n with
 |zero=>intro d t cs O rest r _ e; cases e
 |succ n ih =>
  intro d t cs O rest r hnd e;obtain⟨d,rfl⟩:∃d',d=d'+1:=⟨d-1,by omega⟩;unfold anP at e
  split at e<;>try (cases e; done)
  ·rename_i C
   split at e<;>try (cases e; done)
   rename_i a b
   split at e<;>try (cases e; done)
   rename_i c;cases e;refine⟨_,c,rfl,rfl,_,C,fun _=>rfl,fun us ws B h2=>?_⟩;obtain⟨u,rfl,L⟩:=B.one;obtain⟨v,rfl,K⟩:=h2.one;have p:u=.bool a:=L.1;have o:v=.bool b:=K.1;subst p o;exact run_equalIn_bool' w d t a b C
  ·rename_i i C
   split at e<;>try (cases e; done)
   rename_i k a k' b
   split at e<;>try (cases e; done)
   rename_i hk _;subst hk
   split at e<;>try (cases e; done)
   rename_i c;cases e;refine⟨_,c,rfl,rfl,_,C,fun _=>rfl,fun us ws B h2=>?_⟩;obtain⟨u,rfl,L⟩:=B.one;obtain⟨v,rfl,K⟩:=h2.one;have p:u=.int k a:=L.1;have o:v=.int k b:=K.1;subst p o;have:=run_equalIn_int w d t k i a b C
   rw[show(a==b)=decide (a=b) from by by_cases hab:a=b<;>simp[hab]] at this
   exact this
  ·rename_i fs C
   split at e<;>try (cases e; done)
   rename_i hst
   have R:∀(l:rT Field) (r:Bool),eqFs P (anP P n) cs O l rest=some r->∃e c,rest=some c/\r=(e&&c)/\∀us ws:Array Value,ÿ (VRc ν h w) cs us.toList->ÿ (VRc ν h w) O ws.toList->(Op.eqFields d us ws l).run P w=.ok e w:=by
    intro l
    induction l with
    |nil=>intro r e; exact⟨true,r,e,by simp,fun us ws _ _=>rfl⟩
    |cons f l H =>
     intro r e;unfold eqFs at e
     split at e
     ·rename_i T;obtain⟨e',c,B,h2,J⟩:=H r e;refine⟨e',c,B,h2,fun us ws A s=>?_⟩
      have : ¬ (f.name ≠ "_") := by simpa using T
      simp only[Op.eqFields,if_neg this];exact J us ws A s
     ·rename_i T
      split at e<;>try (cases e; done)
      rename_i m I
      split at e<;>try (cases e; done)
      rename_i x y hx hy;obtain⟨p,r1,B,h2,D,hD,U,J⟩:=ih d f.type x y _ r (by omega) e;obtain⟨o,r2,h4,h5,h6⟩:=H r1 B;refine⟨p&&o,r2,h4,by rw[h2,h5,Bool.and_assoc],fun us ws A s=>?_⟩;obtain⟨L,K⟩:=nO hx;obtain⟨g3,g4⟩:=nO hy
      have hnn : f.name ≠ "_" := by simpa using T
      have Y:∀{l:rT AV} {us:Array Value} {z:rT AV},ÿ (VRc ν h w) l us.toList->z=(l.drop f.offset).take m->z.length=m->f.offset+m<=us.size\/m=0:=fun {l us z} q p o=>by
       have:=q.length;rw[p] at o;simp at o this;omega
      have E:QQ D=false->m=1:=fun j=>by rw[<-K]; exact U j
      have rp:∀{l:rT AV} {us:Array Value} {z:rT AV},ÿ (VRc ν h w) l us.toList->z=(l.drop f.offset).take m->z.length=m->(part f.type us f.offset).run P w=.ok (aay (QQ D) ((us.toList.drop f.offset).take m)) w:=fun {l us z} q p o=>by
       rcases Y q p o with j|j
       ·exact acy hD I us E j
       ·subst j
        have G:QQ D=true:=by cases hq:QQ D with
         |true=>rfl
         |false=>exact absurd (E hq) (by simp)
        unfold part;simp only[Sem.run_bind,xw hD,Result.andThen_ok,G,if_true,mi I,Sem.run_pure,aay];congr 2;apply Array.ext';simp
      have p1:=rp A L K;have p2:=rp s g3 g4;have W:=J ((us.toList.drop f.offset).take m) ((ws.toList.drop f.offset).take m) (by rw[L]; exact(A.drop _).take _) (by rw[g3]; exact(s.drop _).take _);have V:=h6 us ws A s;simp only[Op.eqFields,if_pos hnn,Sem.run_bind,p1,p2,Result.andThen_ok,W]
      cases p with
      |true=>simp[V]
      |false=>simp
   obtain⟨e',c,B,h2,J⟩:=R _ r e;refine⟨e',c,B,h2,_,C,fun j=>by simp[QQ] at j,fun us ws A s=>?_⟩
   have j:P.fieldsOf t=fs:=by simp[Program.fieldsOf,C]
   show(Op.equalIn (d+1) t (.agg us.toArray) (.agg ws.toArray)).run P w=_;rw[run_equalIn_struct w d t _ _ (by rw[j]; exact C) hst,j];exact J us.toArray ws.toArray (by simpa using A) (by simpa using s)
  ·rename_i len Z C
   split at e<;>try (cases e; done)
   rename_i m I
   have R:∀(l:rT Nat) (r:Bool),eqIs P (anP P n) Z m cs O l rest=some r->∃e c,rest=some c/\r=(e&&c)/\∀us ws:Array Value,ÿ (VRc ν h w) cs us.toList->ÿ (VRc ν h w) O ws.toList->(Op.eqItems d Z m us ws l).run P w=.ok e w:=by
    intro l
    induction l with
    |nil=>intro r e; exact⟨true,r,e,by simp,fun us ws _ _=>rfl⟩
    |cons i l H =>
     intro r e;unfold eqIs at e
     split at e<;>try (cases e; done)
     rename_i x y hx hy;obtain⟨p,r1,B,h2,D,hD,U,J⟩:=ih d Z x y _ r (by omega) e;obtain⟨o,r2,h4,h5,h6⟩:=H r1 B;refine⟨p&&o,r2,h4,by rw[h2,h5,Bool.and_assoc],fun us ws A s=>?_⟩;obtain⟨L,K⟩:=nO hx;obtain⟨g3,g4⟩:=nO hy
     have Y:∀{l:rT AV} {us:Array Value} {z:rT AV},ÿ (VRc ν h w) l us.toList->z=(l.drop (i*m)).take m->z.length=m->(i*m)+m<=us.size\/m=0:=fun {l us z} q p o=>by
      have:=q.length;rw[p] at o;simp at o this;omega
     have E:QQ D=false->m=1:=fun j=>by rw[<-K]; exact U j
     have rp:∀{l:rT AV} {us:Array Value} {z:rT AV},ÿ (VRc ν h w) l us.toList->z=(l.drop (i*m)).take m->z.length=m->(part Z us (i*m)).run P w=.ok (aay (QQ D) ((us.toList.drop (i*m)).take m)) w:=fun {l us z} q p o=>by
      rcases Y q p o with j|j
      ·exact acy hD I us E j
      ·subst j
       have G:QQ D=true:=by cases hq:QQ D with
        |true=>rfl
        |false=>exact absurd (E hq) (by simp)
       unfold part;simp only[Sem.run_bind,xw hD,Result.andThen_ok,G,if_true,mi I,Sem.run_pure,aay];congr 2;apply Array.ext';simp
     have p1:=rp A L K;have p2:=rp s g3 g4;have W:=J ((us.toList.drop (i*m)).take m) ((ws.toList.drop (i*m)).take m) (by rw[L]; exact(A.drop _).take _) (by rw[g3]; exact(s.drop _).take _);have V:=h6 us ws A s;simp only[Op.eqItems,Sem.run_bind,p1,p2,Result.andThen_ok,W]
     cases p with
     |true=>simp[V]
     |false=>simp
   obtain⟨e',c,B,h2,J⟩:=R _ r e;refine⟨e',c,B,h2,_,C,fun j=>by simp[QQ] at j,fun us ws A s=>?_⟩
   obtain⟨S,N,hsz⟩:∃S,P.info? Z=some S/\S.size=m:=by
    unfold szP at I
    split at I
    ·cases I; exact⟨_,‹_›,rfl⟩
    ·cases I
   have hco:P.cellsOf Z=m:=by simp[Program.cellsOf,N,hsz]
   show(Op.equalIn (d+1) t (.agg us.toArray) (.agg ws.toArray)).run P w=_;rw[run_equalIn_array w d us.toArray ws.toArray C N,hco];exact J us.toArray ws.toArray (by simpa using A) (by simpa using s)
def al1 {op:BinOp} {t:TypeId} {x y v:AV} {j i:Value} (X Y:Operand) (H:HR ν h w) (e:an5 P op t x y some=some v) (A:VR ν h w x j) (z:VR ν h w y i) :
 Ŏ P ν h w (do eqGuard op t X Y j i; binOp op t j i) v h:=by
 unfold an5 at e
 split at e
 ·rename_i k a B b;have f:j=.int k a:=A;have h2:i=.int B b:=z;subst f h2
  split at e
  ·rename_i l C
   have c:(eqGuard op t X Y (.int k a) (.int B b)).run P w=.ok () w:=by cases op<;>simp[eqGuard]
   unfold shK at e
   split at e<;>try (cases e; done)
   rename_i hb
   have hb:¬b<0:=by have:=of_decide_eq_true hb; omega
   split at e
   ·cases e;refine Ŏ.still H (u:=.int k (shlI k a b)) ?_ rfl;rw[Sem.run_bind,c,Result.andThen_ok]
    cases op<;>simp only[abz,Option.some.injEq,reduceCtorEq] at C
    simp[binOp,Op.shift,hb,shlI]
   ·cases e;refine Ŏ.still H (u:=.int k (iN k a b)) ?_ rfl;rw[Sem.run_bind,c,Result.andThen_ok]
    cases op<;>simp only[abz,Option.some.injEq,reduceCtorEq] at C
    simp[binOp,Op.shift,hb,iN]
  rename_i J
  split at e<;>try (cases e; done)
  rename_i L _;subst L
  have c:(eqGuard op t X Y (.int k a) (.int k b)).run P w=.ok () w:=by cases op<;>simp[eqGuard]
  split at e
  ·rename_i r d;cases e;refine Ŏ.still H (u:=.bool r) ?_ rfl;rw[Sem.run_bind,c,Result.andThen_ok]
   cases op<;>simp only[cmpI,reduceCtorEq,Option.some.injEq] at d<;>subst d<;>simp[binOp,Op.intCmp]
  ·split at e
   ·rename_i r d;rw[WW e];refine Ŏ.still H (u:=.int k (k.wrap r)) ?_ rfl;rw[Sem.run_bind,c,Result.andThen_ok]
    cases op<;>simp only[arI,reduceCtorEq,Option.some.injEq] at d<;>subst d<;>simp[binOp,Op.intArith]
   ·split at e<;>try (cases e; done)
    ·split at e<;>try (cases e; done)
     rename_i hb
     have hb:¬b=0:=by simpa using hb
     rw[WW e];refine Ŏ.still H (u:=.int k (k.wrap (a.tdiv b))) ?_ rfl;rw[Sem.run_bind,c,Result.andThen_ok];simp[binOp,Op.intDiv,hb]
    ·split at e<;>try (cases e; done)
     rename_i hb
     have hb:¬b=0:=by simpa using hb
     cases e;refine Ŏ.still H (u:=.int k (a.tmod b)) ?_ rfl;rw[Sem.run_bind,c,Result.andThen_ok];simp[binOp,Op.intDiv,hb]
    ·cases e;refine Ŏ.still H (u:=.int k (andI k a b)) ?_ rfl;rw[Sem.run_bind,c,Result.andThen_ok];simp[binOp,Op.intBits,andI,amH]
    ·cases e;refine Ŏ.still H (u:=.int k (orI k a b)) ?_ rfl;rw[Sem.run_bind,c,Result.andThen_ok];simp[binOp,Op.intBits,orI,amH]
    ·cases e;refine Ŏ.still H (u:=.int k (xorI k a b)) ?_ rfl;rw[Sem.run_bind,c,Result.andThen_ok];simp[binOp,Op.intBits,xorI,amH]
    ·cases e;refine Ŏ.still H (u:=.int k (WY k a b)) ?_ rfl;rw[Sem.run_bind,c,Result.andThen_ok];simp[binOp,Op.intBits,WY,amH]
 ·rename_i a b;have f:j=.bool a:=A;have h2:i=.bool b:=z;subst f h2
  split at e<;>try (cases e; done)
  rename_i I
  have c:(eqGuard op t X Y (.bool a) (.bool b)).run P w=.ok () w:=by cases op<;>simp[eqGuard]
  have E:(Op.equalIn 10000 t (.bool a) (.bool b)).run P w=.ok (a==b) w:=run_equalIn_bool' w 9999 t a b I
  split at e<;>try (cases e; done)
  ·cases e;refine Ŏ.still H (u:=.bool (a==b)) ?_ rfl;rw[Sem.run_bind,c,Result.andThen_ok];simp[binOp,Op.equal,Op.maxDepth,E]
  ·cases e;refine Ŏ.still H (u:=.bool (!(a==b))) ?_ rfl;rw[Sem.run_bind,c,Result.andThen_ok];simp[binOp,Op.equal,Op.maxDepth,E]
 ·rename_i a b;have f:j=.string a:=A;have h2:i=.string b:=z;subst f h2
  have c:(eqGuard op t X Y (.string a) (.string b)).run P w=.ok () w:=by cases op<;>simp[eqGuard]
  split at e<;>try (cases e; done)
  ·cases e;refine Ŏ.still H (u:=.bool (a.toList==b.toList)) ?_ rfl;rw[Sem.run_bind,c,Result.andThen_ok];simp[binOp,Op.stringOp]
  ·cases e;refine Ŏ.still H (u:=.bool (!(a.toList==b.toList))) ?_ rfl;rw[Sem.run_bind,c,Result.andThen_ok];simp[binOp,Op.stringOp]
  ·split at e<;>try (cases e; done)
   rename_i o;cases e;have o:=of_decide_eq_true o;refine Ŏ.still H (u:=.string (a++b)) ?_ rfl
   have K:¬(((a.size+b.size:Nat):Int)>IntKind.i64.max):=by
    have:IntKind.i64.max=9223372036854775807:=by decide
    omega
   rw[Sem.run_bind,c,Result.andThen_ok];show(Op.stringOp .add a b).run P w=_;unfold Op.stringOp;dsimp only;rw[if_neg K];rfl
 ·rename_i cs T;obtain⟨us,rfl,f⟩:=A;obtain⟨ws,rfl,h2⟩:=z
  split at e<;>try (cases e; done)
  rename_i m
  split at e<;>try (cases e; done)
  rename_i p
  split at e<;>try (cases e; done)
  rename_i r d;obtain⟨V,U,S,G,D,O,N,R⟩:=anO (ν:=ν) (h:=h) (w:=w) 8 10000 t cs T _ r (by omega) d;cases S;rw[Bool.and_true] at G;subst G;have s:=R us.toList ws.toList f h2
  have q:QQ D=true:=by rw[O] at m; cases D<;>first|rfl|(simp[aggT] at m; done)
  rw[q] at s
  have s:(Op.equalIn 10000 t (.agg us) (.agg ws)).run P w=.ok r w:=by simpa[aay] using s
  split at e<;>try (cases e; done)
  ·cases e;refine Ŏ.still H (u:=.bool r) ?_ rfl;rw[Sem.run_bind,run_eqGuard_agg w _ t X Y us ws p,Result.andThen_ok,run_eql_struct,s]; rfl
  ·cases e;refine Ŏ.still H (u:=.bool (!r)) ?_ rfl;rw[Sem.run_bind,run_eqGuard_agg w _ t X Y us ws p,Result.andThen_ok,run_neq_struct,s]; rfl
 ·cases e
def ifc_ok {op:BinOp} {t:TypeId} {x v:AV} {c:Value} (X:Operand) (H:HR ν h w) (e:anC P op t x some=some v) (k:VR ν h w x c) :
 Ŏ P ν h w (do eqGuard op t X (.const .nilIface) c .nilIface; binOp op t c .nilIface) v h:=by
 unfold anC at e
 split at e<;>try (cases e; done)
 rename_i ms j
 split at e<;>try (cases e; done)
 rename_i a;obtain⟨m,h0,l⟩:=k
 have f:∀b:Bool,a=b->(Op.equal t c .nilIface).run P w=.ok (!b) w/\(eqGuard op t X (.const .nilIface) c .nilIface).run P w=.ok () w:=by
  intro b hb
  cases b with
  |false =>
   rw[h0 hb];refine⟨?_,?_⟩
   ·show(Op.equalIn (9999+1) t .nilIface .nilIface).run P w=_;generalize 9999=n;rw[Op.equalIn,Sem.run_bind,run_underlying j]; rfl
   ·cases op<;>first|rfl|(cases X<;>rfl)
  |true =>
   obtain⟨tx,u,rfl⟩:=l hb;refine⟨?_,?_⟩
   ·show(Op.equalIn (9999+1) t (.iface tx u) .nilIface).run P w=_;generalize 9999=n;rw[Op.equalIn,Sem.run_bind,run_underlying j]; rfl
   ·cases op<;>rfl
 obtain⟨k1,i⟩:=f a rfl
 have d:∀op:BinOp,(op=.eql->binOp op t c .nilIface=(do pure (.bool (<-Op.equal t c .nilIface))))/\(op=.neq->binOp op t c .nilIface=(do pure (.bool !(<-Op.equal t c .nilIface)))):=fun op=>by
  constructor
  ·rintro rfl; cases c<;>rfl
  ·rintro rfl; cases c<;>rfl
 split at e<;>try (cases e; done)
 ·cases e;refine Ŏ.still H (u:=.bool (!a)) ?_ rfl;rw[Sem.run_bind,i,Result.andThen_ok,(d _).1 rfl,Sem.run_bind,k1];rfl
 ·cases e;refine Ŏ.still H (u:=.bool a) ?_ rfl;rw[Sem.run_bind,i,Result.andThen_ok,(d _).2 rfl,Sem.run_bind,k1];simp
def ags {op:UnOp} {x v:AV} {c:Value} (H:HR ν h w) (d:VR ν h w x c)
 (e:(match op,x with|.not,.bool b=>some (AV.bool (!b))|.neg,.int k n=>arK k (0-n) some|_,_=>none)=some v):Ŏ P ν h w (Op.unary op c) v h:=by
 split at e<;>try (cases e; done)
 ·cases e;rename_i b d;have:c=.bool b:=d;subst this;exact Ŏ.still H rfl rfl
 ·rename_i k n d;have:c=.int k n:=d;subst this;rw[WW e];exact Ŏ.still H (u:=.int k (k.wrap (0-n))) rfl rfl
end
end Go.Am
end

noncomputable section
namespace Go.Am
variable [Globs] [Ghost]
section
variable {ν ν':Nat->Value} {h h':rT Blk} {w w':World} {P:Program}
def SY (b:AV):∀(as:rT AV) (h:rT Blk),ñ (Bj h as) b=ñ h b
 |[],_=>rfl
 |a::as,h=>by rw[Bj,SY b as,HI]
def zV.mono {av c:Nat->Prop} (e:∀b,c b->av b) {t:Ty} {xs:rT (Val t)} {news:rT Value} (d:zV w av t xs news):zV w c t xs news :=
 ⟨d.1,fun i x hi=>CR.mono e (d.2 i x hi)⟩
def PW {a:AV} {id:Nat} {h:rT Blk} (b:lkB h id=.dead):lkB (qC h a) id=.dead:=by
 have c:∀(j g:Nat) (t:Ty) (fz:Bool) (xs:rT (Val t)),lkB h j=.row t g fz xs->lkB (î h j (.row t g true xs)) id=.dead:=fun j g t fz xs d=>by
  by_cases e:id=j
  ·subst e; rw[b] at d; cases d
  ·rw[Ð _ e]; exact b
 cases a<;>try exact b
 all_goals
  simp only[qC]
  split
  ·exact c _ _ _ _ _ ‹_›
  ·exact b
def PS {id:Nat}:∀(as:rT AV) {h:rT Blk},lkB h id=.dead->lkB (Bj h as) id=.dead
 |[],_,b=>b
 |_::as,_,b=>PS as (PW b)
def adD {v:AV} {id:Nat} {h:rT Blk} (b:lkB h id=.dead):lkB (frz h v) id=.dead:=by
 unfold frz; split
 ·exact PS _ b
 ·exact PW b
def PT {id:Nat}:∀(ps:rT (Nat×AV)) {h:rT Blk},lkB h id=.dead->lkB (frzA h ps) id=.dead
 |[],_,b=>b
 |(_,_)::ps,_,b=>PT ps (adD b)
def acB {h0:rT Blk} {ty:Ty}:∀(ps:rT (Nat×AV)) (us:rT (Nat×Value)) (k:Nat) (c:Array Value) (xs:rT (Val ty)) (h:rT Blk),(∀b,ñ h b=ñ h0 b)->HR ν h w->ME h0 ty k ps=some xs ->
 ÿ (fun(a:Nat×AV) (b:Nat×Value)=>a.1=b.1/\VR ν h w a.2 b.2) ps us->(k+ps.length)*ty.size<=c.size ->
 ∃c' news,Instr.fill (fun i=>some (i*ty.size,ty.size)) c us=some c'/\c'.toList=c.toList.take (k*ty.size)++news++c.toList.drop ((k+ps.length)*ty.size)/\zV w (Av ν (frzA h ps)) ty xs news/\xs.length=ps.length /\
  Ev h.length ν h w ν (frzA h ps) w/\HR ν (frzA h ps) w/\(∀b,Av ν (frzA h ps) b->Av ν h b)/\(frzA h ps).length=h.length
 |[],[],k,c,xs,h,l,H,e,_,_=>by
  cases e;exact⟨c,[],rfl,by simp,⟨by simp,fun i x hi=>by simp at hi⟩,rfl,Ev.refl _ _ _ _,H,fun _ hb=>hb,rfl⟩
 |[],_::_,_,_,_,_,_,_,_,d,_=>d.elim
 |_::_,[],_,_,_,_,_,_,_,d,_=>d.elim
 |(i,v)::ps,(j,u)::us,k,c,xs,h,l,H,e,d,Y=>by
  obtain⟨⟨E,r⟩,d⟩:=d;simp only at E r; subst E;simp only[ME] at e
  split at e<;>try (cases e; done)
  rename_i C;simp only[dt,beq_iff_eq] at C;obtain⟨rfl,K⟩:=C
  split at e<;>try (cases e; done)
  rename_i cs S
  split at e<;>try (cases e; done)
  rename_i x W
  split at e<;>try (cases e; done)
  rename_i xs' I;cases e;obtain⟨vs,s,rfl⟩:=HH S;obtain⟨O,N⟩:=aiy s h;have R:=r.cells s;have T:=GV H (R.mono fun _ _ q=>q.1) (N K);have A:vs.map (ñ h)=vs.map (ñ h0):=fe fun b _=>l b;rw[A] at T;have p:=ċ W T;obtain⟨V,H1,L⟩:=D2 vs H;simp only[frzA,O]
  have f:u.cells.size=ty.size:=by have:=p.length; simpa using this
  have B:(i+1+ps.length)*ty.size<=c.size:=by rw[show i+1+ps.length=i+(ps.length+1) by omega]; simpa using Y
  have hi:i*ty.size+ty.size<=c.size:=by
   have:=dP ty.size (show i+1<=i+1+ps.length by omega);rw[dS i 1,fG] at this;omega
  have o:u.cells.toList.length=ty.size:=by simpa using f
  have G:(c.toList.take (i*ty.size)++u.cells.toList++c.toList.drop (i*ty.size+ty.size)).toArray.size=c.size:=by
   simp only[fN,dw,dK,gB,f7,o]; omega
  obtain⟨c',news,h1,h2,h3,h4,h5,h6,U,Z⟩:=acB ps us (i+1) (c.toList.take (i*ty.size)++u.cells.toList++c.toList.drop (i*ty.size+ty.size)).toArray xs' (Bj h vs)
   (fun b=>(SY b vs h).trans (l b)) H1 I (d.mono fun _ _ q=>⟨q.1,q.2.ev V⟩) (by rw[G]; exact B)
  refine⟨c',u.cells.toList++news,?_,?_,?_,by simp[h4],V.trans h5 (by rw[Ż]; exact du _),h6,fun b hb=>L b (U b hb),by rw[Z,Ż]⟩
  ·rw[P7 rfl f hi]; exact h1
  ·rw[h2]
   have a1:(c.toList.take (i*ty.size)++u.cells.toList++c.toList.drop (i*ty.size+ty.size)).take ((i+1)*ty.size)=c.toList.take (i*ty.size)++u.cells.toList:=by
    have m:(c.toList.take (i*ty.size)++u.cells.toList).length=(i+1)*ty.size:=by
     rw[dw,dK,f7,o,dS,fG]; omega
    rw[<-m,List.take_left]
   have a2:(c.toList.take (i*ty.size)++u.cells.toList++c.toList.drop (i*ty.size+ty.size)).drop ((i+1+ps.length)*ty.size)=c.toList.drop ((i+(ps.length+1))*ty.size):=by
    have m:(c.toList.take (i*ty.size)++u.cells.toList).length=i*ty.size+ty.size:=by
     rw[dw,dK,f7,o]; omega
    rw[show(i+1+ps.length)*ty.size=(c.toList.take (i*ty.size)++u.cells.toList).length+ps.length*ty.size by rw[m,dS,dS,fG],<-fR,gN,fR];congr 1;rw[dS,dS,fG]; omega
   show(List.take ((i+1)*ty.size) _++news++List.drop ((i+1+ps.length)*ty.size) _)=_;rw[a1,a2];simp
  ·have z:zV w (Av ν (frzA (Bj h vs) ps)) ty [x] u.cells.toList:=⟨by simp[f],fun q y J=>by
    cases q with
    |zero =>
     simp at J; subst J;simp only[Nat.zero_mul,gP];rw[eh (by omega)];exact CR.mono U p
    |succ q=>simp at J⟩
   exact z.append h3
def WR {S:St} {a:Act} {nid n:Nat} {t e:TypeId} {ty:Ty} {ps:Array (Nat×Operand)} {xs:rT (Val ty)} (H:Sim ν S a w) (u:nid<S.h.length) (hd:lkB S.h nid=.dead) (L:LA P t=some e)
 (d:MD P e ty.size=true) (f:ps.toList.length=n) (y:n*ty.size<=65536) (G:ME S.h ty 0 (ps.toList.map fun p=>(p.1,ev S.t p.2))=some xs) :
 Ŏ P ν S.h w (Instr.buildSlice t n (ps.map fun(i,x)=>(i,a.eval x))) (.own nid 0) (î (frzA S.h (ps.toList.map fun p=>(p.1,ev S.t p.2))) nid (.row ty 0 false xs)):=by
 obtain⟨i,z,hi,m,s,N,E,C⟩:=s9 d;have I:=pB L
 have q:((Array.range (n*ty.size)).map (fun j=>(if n*ty.size=0 then(#[]:Array Value) else z.cells)[j % (if n*ty.size=0 then(#[]:Array Value) else z.cells).size]!)).size=n*ty.size:=by simp
 obtain⟨c',news,T,h2,B,r,R,O,U,l⟩:=acB (ν:=ν) (w:=w) (h0:=S.h) _ (ps.toList.map fun p=>(p.1,a.eval p.2)) 0 ((Array.range (n*ty.size)).map (fun j=>(if n*ty.size=0 then(#[]:Array Value) else z.cells)[j % (if n*ty.size=0 then(#[]:Array Value) else z.cells).size]!)) xs S.h (fun _=>rfl) H.heap G (Eu H ps.toList)
  (by rw[q]; simp only[eF]; rw[f,dW]; exact du _)
 rw[eF,f] at h2 r
 have k:c'.toList=news:=by
  rw[h2];simp
 have o:lkB (frzA S.h (ps.toList.map fun p=>(p.1,ev S.t p.2))) nid=.dead:=PT _ hd
 have b:=C8 (w':=w.alloc (.cells c' e)) O (id:=nid) (g':=0) (xs':=xs) (cap':=n) (by rw[l]; exact u) (fun V=>by rw[o]; trivial) rfl rfl rfl rfl (by omega) (by
  have:c'.size=news.length:=by rw[<-k]; simp
  rw[this,B.1,r]; exact du _) B (fun j v A=>by rw[<-k] at A; simpa using A)
 rw[r] at b;refine⟨_,_,_,?_,wn (by rw[l]; exact u) rfl,b.2,(R.trans b.1 (by rw[l]; exact du _)),by rw[Û,l]⟩
 have J:(ps.map fun(x:Nat×Operand)=>(x.1,a.eval x.2)).toList=ps.toList.map fun p=>(p.1,a.eval p.2):=by simp
 have K:¬(16777216<n*ty.size):=by omega
 have c:Instr.fill (fun i=>some (i*ty.size,ty.size)) ((Array.range (n*ty.size)).map (fun j=>(if n*ty.size=0 then(#[]:Array Value) else z.cells)[j % (if n*ty.size=0 then(#[]:Array Value) else z.cells).size]!)) (ps.map fun(x:Nat×Operand)=>(x.1,a.eval x.2)).toList=some c':=by rw[J]; exact T
 simp only[Instr.buildSlice,Sem.run_bind,run_underlying I,Result.andThen_ok,sizeOf,typeInfo,run_program,hi,Sem.run_pure,m];rw[show(2:Nat) ^ 24=16777216 from rfl,if_neg (by omega:¬n*ty.size>16777216)]
 by_cases h0:n*ty.size=0
 ·simp only[h0,if_true,Sem.run_bind,Sem.run_pure,Result.andThen_ok] at c ⊢
  erw [c]
  simp[newRow]
 ·simp only[h0,if_false,Sem.run_bind,zeroValue,typeInfo,run_program,hi,E,Sem.run_pure,Result.andThen_ok] at c ⊢
  erw [c]
  simp[newRow]
end
end Go.Am
end

noncomputable section
namespace Go.Am
variable {ρ:Type}
def Ed (k:IntKind) (n:Int) (K:AV->rF ρ):arK k n K=(arK k n some).bind K:=rfl
def A0 (P:Program) (op:BinOp) (t:TypeId) (x y:AV) (K:AV->rF ρ):an5 P op t x y K=(an5 P op t x y some).bind K:=by
 unfold an5; (repeat' split)<;>first|rfl|exact Ed _ _ _|(unfold shK; (repeat' split)<;>rfl)
def As (d:rF TypeDesc) (h:rT Blk) (x:AV) (K:AV->rF ρ):akj d h x K=(akj d h x some).bind K:=by
 unfold akj; (repeat' split)<;>rfl
def pu (sz:Nat) (h:rT Blk) (x i:AV) (K:AV->rF ρ):CP sz h x i K=(CP sz h x i some).bind K:=by
 unfold CP; (repeat' split)<;>rfl
def pn (h:rT Blk) (x:AV) (o:Nat) (K:AV->rF ρ):xq h x o K=(xq h x o some).bind K:=by
 unfold xq; (repeat' split)<;>rfl
def uB (P:Program) (h:rT Blk) (t:TypeId) (a:AV) (K:AV->rF ρ):PG P h t a K=(PG P h t a some).bind K:=by
 unfold PG; (repeat' split)<;>rfl
def pk (P:Program) (h:rT Blk) (t:TypeId) (a v:AV) (K:rT Blk->rF ρ):qR P h t a v K=(qR P h t a v some).bind K:=by
 unfold qR; (repeat' split)<;>rfl
def Ab (sz:Nat) (h:rT Blk) (x:AV) (lo hi:rF AV) (eat:Bool) (K:AV->rT Blk->rF ρ) :
 pJ sz h x lo hi eat K=(pJ sz h x lo hi eat fun v h=>some (v,h)).bind fun r=>K r.1 r.2:=by
 unfold pJ; (repeat' split)<;>rfl
def vX (P:Program) (h:rT Blk) (nid:Nat) (t:TypeId) (s x:AV) (K:AV->rT Blk->rF ρ) :
 vY P h nid t s x K=(vY P h nid t s x fun v h=>some (v,h)).bind fun r=>K r.1 r.2:=by
 unfold vY; (repeat' split)<;>rfl
def zY (P:Program) (h:rT Blk) (nid:Nat) (t:TypeId) (s x:AV) (K:AV->rT Blk->rF ρ) :
 Eh P h nid t s x K=(Eh P h nid t s x fun v h=>some (v,h)).bind fun r=>K r.1 r.2:=by
 unfold Eh; (repeat' split)<;>rfl
def AX (P:Program) (h:rT Blk) (t:TypeId) (x:AV) (K:rT Blk->rF ρ):Hs P h t x K=(Hs P h t x some).bind K:=by
 unfold Hs; (repeat' split)<;>rfl
def my (P:Program) (h:rT Blk) (t:TypeId) (m i:AV) (ok:Bool) (K:AV->rF ρ):qo P h t m i ok K=(qo P h t m i ok some).bind K:=by
 unfold qo; (repeat' split)<;>rfl
def jS (P:Program) (h:rT Blk) (t:TypeId) (m i x:AV) (K:rT Blk->rF ρ):ť P h t m i x K=(ť P h t m i x some).bind K:=by
 unfold ť; (repeat' split)<;>rfl
def π (gt:Bool) (l:rT AV) (K:AV->rF ρ):∀x,jH gt x l K=(jH gt x l some).bind K:=by
 induction l with
 |nil=>intro x; rfl
 |cons y l b =>
  intro x
  cases x<;>cases y<;>try rfl
  unfold jH; (repeat' split)<;>first|rfl|exact b _
def ajD {α β γ:Type} {x:rF α} {y:rF β} {f:α->rF β} {g:β->rF γ} {k:α->rF γ} {z:rF γ}
 (b:z=x.bind k) (h2:y=x.bind f) (h:∀a,k a=(f a).bind g):z=y.bind g:=by
 subst b h2; cases x with
 |none=>rfl
 |some a=>exact h a
def Az (P:Program) (op:BinOp) (t:TypeId) (x:AV) (K:AV->rF ρ):anC P op t x K=(anC P op t x some).bind K:=by
 unfold anC; (repeat' split)<;>rfl
def jb (s:ByteArray) (j:Int) (K:AV->rF ρ):pF s j K=(pF s j some).bind K:=by
 unfold pF; (repeat' split)<;>rfl
def ja (s:ByteArray) (lo hi:rF AV) (K:AV->rF ρ):pE s lo hi K=(pE s lo hi some).bind K:=by
 unfold pE; (repeat' split)<;>rfl
def pD (h:rT Blk) (x:AV) (K:AV->rF ρ):C1 h x K=(C1 h x some).bind K:=by
 unfold C1; (repeat' split)<;>rfl
def AA (s:ByteArray) (K:rF AV->rF ρ):∀es:rT (ByteArray×AV),CS s es K=(CS s es some).bind K
 |[]=>rfl
 |e::es=>by
  unfold CS
  split
  ·rfl
  ·exact AA s K es
def mz (P:Program) (h:rT Blk) (t:TypeId) (id:Nat) (i:AV) (ok:Bool) (K:AV->rF ρ):sQ P h t id i ok K=(sQ P h t id i ok some).bind K:=by
 unfold sQ; (repeat' split)<;>first|rfl|exact ajD (AA _ _ _) (AA _ _ _) fun _=>by(repeat' split)<;>rfl
def jT (P:Program) (h:rT Blk) (t:TypeId) (id:Nat) (i x:AV) (K:rT Blk->rF ρ):Ŧ P h t id i x K=(Ŧ P h t id i x some).bind K:=by
 unfold Ŧ; (repeat' split)<;>rfl
def EL (h:rT Blk) (x:AV) (K:AV->rT Blk->rF ρ):Vw h x K=(Vw h x fun v h'=>some (v,h')).bind fun r=>K r.1 r.2:=by
 unfold Vw; (repeat' split)<;>rfl
def opR (P:Program) (S:St) (nid:Nat) (eat:Bool) (o:Op):rF (AV×St):=opK P S nid eat o fun v S=>some (v,S)
def ĥ {α β γ:Type} {x:rF α} {y:rF β} {f:α->rF β} {g:β->rF γ} {k:α->rF γ} {z:rF γ}
 (b:z=x.bind k) (h2:y=x.bind f) (h:∀a,k a=(f a).bind g):z=y.bind g:=by
 subst b h2; cases x with
 |none=>rfl
 |some a=>exact h a
def ir (j:Int) (K:Nat->rF ρ):∀(n q:Nat),QU n q j K=(QU n q j some).bind K
 |0,_=>rfl
 |n+1,q=>by
  unfold QU
  split
  ·rfl
  ·exact ir j K n (q+1)
def HN {j:Int} {v:Nat}:∀{n q:Nat},QU n q j some=some v->j=(v:Int)/\q<=v/\v<q+n
 |0,_,h=>by cases h
 |n+1,q,h=>by
  unfold QU at h
  split at h
  ·rename_i hd;cases h;exact⟨of_decide_eq_true hd,du _,by omega⟩
  ·obtain⟨b,h2,c⟩:=HN h;exact⟨b,by omega,by omega⟩
def Vq (P:Program) (S:St) (nid:Nat) (eat:Bool) (o:Op) (K:AV->St->rF ρ) :
 opK P S nid eat o K=(opR P S nid eat o).bind fun r=>K r.1 r.2:=by
 unfold opR;unfold opK;dsimp only
 (repeat' split)<;>first
  |rfl
  |exact ĥ (As ..) (As ..) fun _=>rfl
  |exact ĥ (uB ..) (uB ..) fun _=>rfl
  |exact ĥ (pk ..) (pk ..) fun _=>rfl
  |exact ĥ (A0 ..) (A0 ..) fun _=>rfl
  |exact ĥ (jS ..) (jS ..) fun _=>rfl
  |exact ĥ (my ..) (my ..) fun _=>rfl
  |exact ĥ (vX ..) (vX ..) fun _=>rfl
  |exact ĥ (zY ..) (zY ..) fun _=>rfl
  |exact ĥ (AX ..) (AX ..) fun _=>rfl
  |exact ĥ (π _ _ _ _) (π _ _ _ _) fun _=>rfl
  |exact ĥ (Ed ..) (Ed ..) fun _=>rfl
  |exact ĥ (Ab ..) (Ab ..) fun _=>rfl
  |exact ĥ (pn ..) (pn ..) fun _=>rfl
  |exact ĥ (pu ..) (pu ..) fun _=>rfl
  |exact ĥ (Az ..) (Az ..) fun _=>rfl
  |exact ĥ (jb ..) (jb ..) fun _=>rfl
  |exact ĥ (ja ..) (ja ..) fun _=>rfl
  |exact ĥ (pD ..) (pD ..) fun _=>rfl
  |exact ĥ (mz ..) (mz ..) fun _=>rfl
  |exact ĥ (jT ..) (jT ..) fun _=>rfl
  |exact ĥ (EL ..) (EL ..) fun _=>rfl
  |exact ĥ (ir ..) (ir ..) fun _=>rfl
  |exact ĥ (ir ..) (ir ..) fun _=>by(repeat' split)<;>rfl
end Go.Am
end

noncomputable section
namespace Go.Am
variable [Globs] [Ghost]
section
variable {ν ν':Nat->Value} {h h':rT Blk} {w w':World} {P:Program}
def aaK {t:TypeId} {s:ByteArray} {k:IntKind} {j:Int} {v:AV} (H:HR ν h w) (c:P.underlying t=some .string) (e:pF s j some=some v):Ŏ P ν h w (Instr.index t (.string s) (.int k j)) v h:=by
 unfold pF at e
 split at e<;>try (cases e; done)
 rename_i h0;have h0:=of_decide_eq_true h0
 split at e<;>try (cases e; done)
 rename_i b hb;cases e;refine Ŏ.still H (u:=.int .u8 b.toNat) ?_ rfl;simp only[Instr.index,asIntOf,Sem.run_bind,Sem.run_pure,Result.andThen_ok,run_underlying c];rw[if_pos h0,hb];rfl
def pK {t:TypeId} {s:ByteArray} {lo hi:rF Value} (b:P.underlying t=some .string):(Instr.sliceAt t (.string s) lo hi none).run P w=(Instr.slice t (.string s) lo hi none).run P w:=by
 simp only[Instr.sliceAt,Sem.run_bind,run_underlying b,Result.andThen_ok]
def aaJ {t:TypeId} {s:ByteArray} {lo hi:rF AV} {b c:rF Value} {v:AV} (H:HR ν h w) (i:P.underlying t=some .string) (e:pE s lo hi some=some v)
 (p:∀y,lo=some y->∃u,b=some u/\VR ν h w y u) (h2:lo=none->b=none) (o:∀y,hi=some y->∃u,c=some u/\VR ν h w y u) (q:hi=none->c=none):Ŏ P ν h w (Instr.sliceAt t (.string s) b c none) v h:=by
 unfold pE at e
 split at e
 ·rename_i k l j m;obtain⟨_,rfl,f⟩:=p _ rfl;obtain⟨_,rfl,d⟩:=o _ rfl;have f:_=Value.int k l:=f;have d:_=Value.int j m:=d;subst f d
  split at e<;>try (cases e; done)
  rename_i hb;simp only[dt,decide_eq_true_eq] at hb;cases e;refine Ŏ.still H (u:=.string (s.extract l.toNat m.toNat)) ?_ rfl;rw[pK i,run_slice_string w t s k j l m i hb.1 hb.2.1 hb.2.2]
 ·rename_i k l;obtain⟨_,rfl,f⟩:=p _ rfl;have f:_=Value.int k l:=f;subst f;obtain rfl:=q rfl
  split at e<;>try (cases e; done)
  rename_i hb;simp only[dt,decide_eq_true_eq] at hb;cases e;refine Ŏ.still H (u:=.string (s.extract l.toNat s.size)) ?_ rfl;rw[pK i,run_slice_string_from_if w t s k l i,if_pos hb]
 ·rename_i k m;obtain⟨_,rfl,d⟩:=o _ rfl;have d:_=Value.int k m:=d;subst d;obtain rfl:=h2 rfl
  split at e<;>try (cases e; done)
  rename_i hb;simp only[dt,decide_eq_true_eq] at hb;cases e;refine Ŏ.still H (u:=.string (s.extract 0 m.toNat)) ?_ rfl;rw[pK i,run_slice_string_to_if w t s k m i,if_pos hb]
 ·cases e
def akr {t:TypeId} (h:u8T P t=true):P.underlying t=some (.int .u8):=by
 unfold u8T at h
 split at h
 ·assumption
 ·cases h
def al0 {d f e:TypeId} {x v:AV} {o:Value} (H:HR ν h w) (p:P.underlying d=some (.slice e)) (hd:P.underlying f=some .string) (s:P.underlying e=some (.int .u8)) (B:VR ν h w x o) (j:C1 h x some=some v):Ŏ P ν h w (convert d f o) v h:=by
 unfold C1 at j
 split at j<;>try (cases j; done)
 rename_i id g
 split at j<;>try (cases j; done)
 rename_i g' xs r
 split at j<;>try (cases j; done)
 rename_i G;cases j;obtain⟨L,t,S,fz,z,k,E,C⟩:=B;rw[r] at k; cases k;have m:=C (eq_of_beq G);have y:=H.blk id;rw[r] at y;obtain⟨base,cap,K,h2,J⟩:=y;refine Ŏ.still H (u:=.string (sZ xs)) ?_ rfl;rw[m,K];rcases J with⟨rfl,N⟩|⟨b,off,c,q,rfl,R,O,I⟩
 ·have:xs=[]:=dZ.1 (by omega);subst this;exact run_convert_bytes_nil w d e p s _ _ f hd
 ·refine run_convert_bytes_arg w d e p s b off xs.length cap xs rfl (fun i hi=>?_) f hd;obtain⟨us,l,A⟩:=I i xs[i] (dv hi);have l:us=[Value.int .u8 xs[i]]:=l;subst l;have:=A 0 _ rfl;rw[gC,dv hi];simpa[Ty.size] using this
def acx {a b:ByteArray}:aaP a b=true↔a=b:=by
 unfold aaP;rw[decide_eq_true_eq];constructor
 ·intro h;exact ByteArray.ext (fo h)
 ·rintro rfl; rfl
def akC (a b:ByteArray):(a==b)=aaP a b:=by
 have h:(a==b)=(a.data==b.data):=rfl;rw[h,eS,beq_iff_eq,acx];exact⟨fun h=>ByteArray.ext h,fun h=>by rw[h]⟩
def Xo {t:TypeId} (h:strT P t=true):P.underlying t=some .string:=by
 unfold strT at h
 split at h
 ·assumption
 ·cases h
def Ep {t:TypeId} {s:ByteArray} {empty:Bool} (b:P.underlying t=some .string) (m:Nat):(Instr.checkKey empty (m+1) t (.string s)).run P w=.ok () w:=by
 simp[Instr.checkKey,run_underlying b]
abbrev W8 (ν:Nat->Value) (h:rT Blk) (w:World) (es:rT (ByteArray×AV)) (ms:rT MapEntry):Prop :=
 ÿ (fun(e:ByteArray×AV) (m:MapEntry)=>m.key=.string e.1/\e.2.isFn=true/\VR1 ν h w e.2 m.val) es ms
def P1 {s:ByteArray}:∀(es:rT (ByteArray×AV)) (ms:rT MapEntry) (i:Nat),W8 ν h w es ms ->
 (CS s es some=some none/\Instr.findNow .string (.string s) ms i=some none/\Us s es=true) \/
 ∃v u j,CS s es some=some (some v)/\Instr.findNow .string (.string s) ms i=some (some (j,u))/\v.isFn=true/\VR1 ν h w v u/\Us s es=false
 |[],[],i,_=>.inl ⟨rfl,rfl,rfl⟩
 |[],_::_,_,c=>c.elim
 |_::_,[],_,c=>c.elim
 |e::es,m::ms,i,c=>by
  obtain⟨⟨r,h2,q⟩,c⟩:=c
  have d:Instr.sameNow .string (.string s) m.key=some (aaP s e.1):=by rw[r,<-akC]; rfl
  cases b:aaP s e.1 with
  |true =>
   rw[b] at d;exact .inr ⟨e.2,m.val,i,by simp[CS,b],by simp[Instr.findNow,d],h2,q,by simp[Us,b]⟩
  |false =>
   rw[b] at d;rcases P1 (s:=s) es ms (i+1) c with⟨l,k,f⟩|⟨v,u,j,l,k,f,p,o⟩
   ·exact .inl ⟨by simp[CS,b,l],by simp[Instr.findNow,d,k],by unfold Us at f ⊢; rw[List.all_cons,f,b]; rfl⟩
   ·exact .inr ⟨v,u,j,by simp[CS,b,l],by simp[Instr.findNow,d,k],f,p,by unfold Us at o ⊢; rw[List.all_cons,o]; simp⟩
def aiF (H:HR ν h w) {id:Nat} {es:rT (ByteArray×AV)} {um:Value} (l:lkB h id=.fns es) (j:VR ν h w (.ofn id) um) :
 ∃(b:Nat) (c:Array MapEntry) (d:Nat),um=.map (some b)/\ν id=.map (some b)/\w.heap[b]?=some (.map c d)/\W8 ν h w es c.toList:=by
 obtain⟨_,o,k,i⟩:=j;have e:=H.blk id;rw[l] at e;obtain⟨b,c,d,f,h2,m⟩:=e;exact⟨b,c,d,by rw[i,f],f,h2,m⟩
def afj {t:TypeId} {id:Nat} {i v:AV} {um A:Value} {ok:Bool} (H:HR ν h w) (e:sQ P h t id i ok some=some v) (O:VR ν h w (.ofn id) um) (hi:VR ν h w i A):Ŏ P ν h w (Instr.lookup t um A ok) v h:=by
 unfold sQ at e
 split at e<;>try (cases e; done)
 rename_i N et K
 split at e<;>try (cases e; done)
 rename_i z k
 split at e<;>try (cases e; done)
 rename_i s es C R;have E:=Xo C;have hi:A=.string s:=hi;subst hi;obtain⟨b,c,J,rfl,_,hb,W⟩:=aiF H R O
 cases d:P.info? et with
 |none=>simp[d] at k
 |some m =>
 cases f:m.zero with
 |none=>simp[d,f] at k
 |some q =>
 simp only[d,f,eV,eJ,Option.some.injEq] at k;subst k;have o:∀em,(Instr.checkKey em 10000 N (.string s)).run P w=.ok () w:=fun em=>Ep E 9999
 have run:(∀y j,Instr.findNow .string (.string s) c.toList 0=some (some (j,y))->(Instr.lookup t (.map (some b)) (.string s) ok).run P w=.ok (if ok then .tuple #[y,.bool true] else y) w) /\
  (Instr.findNow .string (.string s) c.toList 0=some none->(Instr.lookup t (.map (some b)) (.string s) ok).run P w=.ok (if ok then .tuple #[q,.bool false] else q) w):=by
  constructor
  ·intro y j G;simp only[Instr.lookup,Sem.run_bind,run_underlying K,Result.andThen_ok,Sem.run_pure,jc hb,o];simp[Instr.findKey,run_underlying E,G]
  ·intro G;simp only[Instr.lookup,Sem.run_bind,run_underlying K,Result.andThen_ok,Sem.run_pure,jc hb,o];simp[Instr.findKey,run_underlying E,G,zeroValue,typeInfo,d,f]
 have l:∀{V:AV} {U:Value} {B:Bool},V.isTup=false->VR ν h w V U->VR ν h w (.tup [V,.bool B]) (.tuple #[U,.bool B]):=fun {V U B} x S=>by
  refine⟨#[U,.bool B],rfl,?_,rfl,trivial⟩
  rwa [vZ x] at S
 rw[AA] at e;rcases P1 (s:=s) es c.toList 0 W with⟨I,p,_⟩|⟨r,u,j,I,p,L,Y,_⟩
 ·rw[I] at e;dsimp only[Option.bind_some] at e;have k:=Z1 (ν:=ν) (h:=h) (w:=w) q
  cases ok with
  |false=>cases e; exact Ŏ.still H (run.2 p) k
  |true=>cases e; exact Ŏ.still H (run.2 p) (l (Z0 q) k)
 ·rw[I] at e;dsimp only[Option.bind_some] at e
  have x:VR ν h w r u:=by
   cases r<;>try cases L
   exact Y
  have T:r.isTup=false:=by cases r<;>first|rfl|cases L
  cases ok with
  |false=>cases e; exact Ŏ.still H (run.1 _ _ p) x
  |true=>cases e; exact Ŏ.still H (run.1 _ _ p) (l T x)
def aeU {nid:Nat} {t:TypeId} (H:HR ν h w) (c:nid<h.length) (hd:lkB h nid=.dead):Ŏ P ν h w (Instr.makeMap t none) (.ofn nid) (î h nid (.fns [])):=by
 obtain⟨ev,d⟩:=Ev.new (w':=w.alloc (.map #[] 0)) (o:=.map #[] 0) H (id:=nid) (B:=.fns []) (V:=.map (some w.heap.size)) c hd rfl rfl rfl rfl (fun b hb=>by cases hb; rfl) fun ev =>
  ⟨w.heap.size,#[],0,Õ _ _ _,heap_alloc_new w _,trivial⟩
 refine⟨_,_,.map (some w.heap.size),?_,⟨rfl,[],ã _ c,(Õ _ _ _).symm⟩,d,ev,Û _ _ _⟩;simp[Instr.makeMap]
def agX {nid:Nat} {t:TypeId} {s:ByteArray} (H:HR ν h w) (c:nid<h.length) (hd:lkB h nid=.dead) (d:P.underlying t=some .string):Ŏ P ν h w (Instr.range t (.string s)) (.oit nid) (î h nid (.iter s 0)):=by
 obtain⟨ev,e⟩:=Ev.new (w':=w.alloc (.stringIter s 0)) (o:=.stringIter s 0) H (id:=nid) (B:=.iter s 0) (V:=.pointer (some ⟨w.heap.size,0,none⟩)) c hd rfl rfl rfl rfl (fun b hb=>by cases hb; rfl) fun ev =>
  ⟨w.heap.size,Õ _ _ _,heap_alloc_new w _,Int.le_refl 0⟩
 refine⟨_,_,.pointer (some ⟨w.heap.size,0,none⟩),?_,⟨rfl,s,0,ã _ c,(Õ _ _ _).symm⟩,e,ev,Û _ _ _⟩;simp[Instr.range,Sem.run_bind,run_underlying d]
def anm (w:World) (k:Nat) (s:ByteArray) (b:Nat) (ty:TypeId) (c:w.heap[k]?=some (.stringIter s b)) (h:b<s.size) :
 (Instr.next (.pointer (some ⟨k,0,none⟩)) true ty).run P w =
  .ok (.tuple #[.bool true,.int .i64 b,.int .i32 (Utf8.decode s b).1]) {w with heap:=w.heap.setIfInBounds k (.stringIter s (b+(Utf8.decode s b).2))}:=by
 simp only[Instr.next,getObj,setObj,Sem.run_bind,Sem.run,c,Result.andThen,h,if_true];simp[goInt]
def akY (w:World) (k:Nat) (s:ByteArray) (b:Nat) (ty:TypeId) (c:w.heap[k]?=some (.stringIter s b)) (h:¬b<s.size) :
 (Instr.next (.pointer (some ⟨k,0,none⟩)) true ty).run P w=.ok (.tuple #[.bool false]) w:=by
 simp[Instr.next,getObj,Sem.run,c,h]
def anl {x v:AV} {u:Value} {ty:TypeId} (H:HR ν h w) (e:(Vw h x fun v h'=>some (v,h'))=some (v,h')) (r:VR ν h w x u):Ŏ P ν h w (Instr.next u true ty) v h':=by
 unfold Vw at e
 split at e<;>try (cases e; done)
 rename_i id
 split at e<;>try (cases e; done)
 rename_i s p d;obtain⟨K,s',J,E,z⟩:=r;subst z;have o:=H.blk id;rw[d] at o;obtain⟨b,i,h2,I⟩:=o;have f:id<h.length:=Ν d (by simp);have k:=å h2;have C:(p.toNat:Int)=p:=Int.toNat_of_nonneg I
 split at e
 ·rename_i hd;cases e;have hd:=of_decide_eq_true hd;rw[ln] at hd
  have A:p.toNat<s.size:=by omega
  have y:(p+widI s p).toNat=p.toNat+(Utf8.decode s p.toNat).2:=by unfold widI; omega
  have c:∀q,q<w.heap.size->((lkB h id).live=true->¬Ĭ (ν id) q)->({w with heap:=w.heap.setIfInBounds b (.stringIter s (p.toNat+(Utf8.decode s p.toNat).2))}:World).heap[q]?=w.heap[q]?:=fun q _ j=>by
   have:b≠q:=fun G=>j (by rw[d]; rfl) (by rw[i,G]; rfl);simp[eD,this]
  have m:(Blk.iter s (p+widI s p)).live=true->∀q,Ĭ (ν id) q->((lkB h id).live=true/\Ĭ (ν id) q)\/w.heap.size<=q:=fun _ q j=>.inl ⟨by rw[d]; rfl,j⟩;have ev:=Ev.upd H (B:=.iter s (p+widI s p)) (V:=ν id) (w':={w with heap:=w.heap.setIfInBounds b (.stringIter s (p.toNat+(Utf8.decode s p.toNat).2))}) f rfl rfl rfl (by simp) c m (by rw[d]; exact⟨⟨_,rfl⟩,Õ _ _ _⟩);have l:=HR.upd H f ev c m ⟨b,(Õ _ _ _).trans i,by rw[y]; simp[k],by unfold widI; omega⟩;rw[kv] at ev l;refine⟨ν,_,_,by rw[i]; exact anm w b s p.toNat ty h2 A,⟨#[.bool true,.int .i64 p.toNat,.int .i32 (Utf8.decode s p.toNat).1],rfl,rfl,congrArg (Value.int .i64) C,rfl,trivial⟩,l,ev,Û _ _ _⟩
 ·rename_i hd;cases e;have hd:=of_decide_eq_false hd;rw[ln] at hd;exact Ŏ.still H (by rw[i]; exact akY w b s p.toNat ty h2 (by omega)) ⟨#[.bool false],rfl,rfl,trivial⟩
def EO {t:TypeId} {id:Nat} {i x:AV} {um p f:Value} (H:HR ν h w) (e:Ŧ P h t id i x some=some h') (S:VR ν h w (.ofn id) um) (hi:VR ν h w i p) (O:VR ν h w x f) :
 ∃w',(Instr.mapUpdate t um p f).run P w=.ok () w'/\HR ν h' w'/\Ev h.length ν h w ν h' w'/\h'.length=h.length:=by
 unfold Ŧ at e
 split at e<;>try (cases e; done)
 rename_i N et R
 split at e<;>try (cases e; done)
 rename_i s es u k
 split at e<;>try (cases e; done)
 rename_i A;simp only[dt] at A;cases e;have G:=Xo u;have hi:p=.string s:=hi;subst hi;obtain⟨o,b,c,rfl,L,h2,J⟩:=aiF H k S;have l:id<h.length:=Ν k (by simp);have y:=å h2
 have m:x.isFn=true:=by cases x<;>first|rfl|cases A.2
 have r:VR1 ν h w x f:=by
  cases x<;>try cases m
  exact O
 have z:∀em,(Instr.checkKey em 10000 N (.string s)).run P w=.ok () w:=fun em=>Ep G 9999
 have j:Instr.findNow .string (.string s) b.toList 0=some none:=by
  rcases P1 (s:=s) es b.toList 0 J with⟨_,U,_⟩|⟨_,_,_,_,_,_,_,K⟩
  ·exact U
  ·rw[A.1] at K; cases K
 have d:∀q,q<w.heap.size->((lkB h id).live=true->¬Ĭ (ν id) q)->({w with heap:=w.heap.setIfInBounds o (.map (b.push {key:=.string s,val:=f,born:=c}) (c+1))}:World).heap[q]?=w.heap[q]?:=fun q _ v=>by
  have:o≠q:=fun T=>v (by rw[k]; rfl) (by rw[L,T]; rfl);simp[eD,this]
 have I:(Blk.fns (es++[(s,x)])).live=true->∀q,Ĭ (ν id) q->((lkB h id).live=true/\Ĭ (ν id) q)\/w.heap.size<=q:=fun _ q v=>.inl ⟨by rw[k]; rfl,v⟩;have ev:=Ev.upd H (B:=.fns (es++[(s,x)])) (V:=ν id) (w':={w with heap:=w.heap.setIfInBounds o (.map (b.push {key:=.string s,val:=f,born:=c}) (c+1))}) l rfl rfl rfl (by simp) d I (by rw[k]; exact⟨⟨_,rfl⟩,Õ _ _ _⟩)
 have C:W8 ν h w (es++[(s,x)]) (b.push {key:=.string s,val:=f,born:=c}).toList:=by
  rw[Array.toList_push];exact ÿ.append J ⟨⟨rfl,m,r⟩,trivial⟩
 have E:=HR.upd H l ev d I ⟨o,b.push {key:=.string s,val:=f,born:=c},c+1,(Õ _ _ _).trans L,by simp[y],C.mono fun _ _ q=>⟨q.1,q.2.1,q.2.2.ev ev⟩⟩;rw[kv] at ev E;refine⟨_,?_,E,ev,Û _ _ _⟩;simp only[Instr.mapUpdate,Sem.run_bind,run_underlying R,Result.andThen_ok,jc h2,z];simp[Instr.findKey,run_underlying G,j,setObj,Sem.run,h2]
end
end Go.Am
end

noncomputable section
namespace Go.Am
variable [Globs] [Ghost]
section
variable {ν ν':Nat->Value} {w w':World} {P:Program}
def agf (ν:Nat->Value) (S:St) (w:World) (r:Result Next) (v:AV) (b:St):Prop :=
 ∃ν' w' u,(r=.ok (.value u) w'\/(r=.ok .skip w'/\u=undef))/\VR ν' b.h w' v u/\HR ν' b.h w'/\Ev S.h.length ν S.h w ν' b.h w'/\b.h.length=S.h.length/\b.t=S.t
def Ŏ.step {S:St} {x:Sem Value} {v:AV} {h':rT Blk} (hd:Ŏ P ν S.h w x v h') :
 agf ν S w ((do let u <-x; pure (.value u):Sem Next).run P w) v {t:=S.t,h:=h'}:=by
 obtain⟨ν',w',u,e,h2,d,c,b⟩:=hd;refine⟨ν',w',u,.inl ?_,h2,d,c,b,rfl⟩;simp[e]
def agf.still {S:St} {r:Result Next} {v:AV} {u:Value} (H:HR ν S.h w) (c:r=.ok (.value u) w) (b:VR ν S.h w v u):agf ν S w r v S :=
 ⟨ν,w,u,.inl c,b,H,Ev.refl _ _ _ _,rfl,rfl⟩
def xm {S:St} {x:Sem Unit} {h':rT Blk} (hd:∃w',x.run P w=.ok () w'/\HR ν h' w'/\Ev S.h.length ν S.h w ν h' w'/\h'.length=S.h.length) :
 agf ν S w ((do x; pure .skip:Sem Next).run P w) .any {t:=S.t,h:=h'}:=by
 obtain⟨w',e,d,c,b⟩:=hd;refine⟨ν,w',undef,.inr ⟨?_,rfl⟩,trivial,d,c,b,rfl⟩;simp[e]
def air {a:AV} {v:Value} {h:rT Blk} (hi:isV0 a=true) (b:VR ν h w a v):VR0 ν h w a v:=by
 have d:a.isFn=false:=by cases a<;>first|rfl|cases hi
 have h2:a.isAgg=false:=by cases a<;>first|rfl|cases hi
 have c:a.isTup=false:=by cases a<;>first|rfl|cases hi
 rwa [vZ c,zU h2,wU d] at b
def ÿ.of_map {α β γ:Type} {R:β->γ->Prop} {f:α->β} {g:α->γ}:∀{l:rT α},(∀x∈l,R (f x) (g x))->ÿ R (l.map f) (l.map g)
 |[],_=>trivial
 |x::l,h=>⟨h x (by simp),ÿ.of_map fun y b=>h y (by simp[b])⟩
def akF (k:IntKind) (a b:Int):(Builtin.max2 (.int k a) (.int k b)).run P w=.ok (.int k (Zy a b)) w:=rfl
def akE (k:IntKind) (a b:Int):(Builtin.min2 (.int k a) (.int k b)).run P w=.ok (.int k (W9 a b)) w:=rfl
def agJ {S:St} {a:Act} {x y:Operand} (h:uY x y=true):a.eval x=a.eval y:=by
 unfold uY at h
 split at h
 ·have:=eq_of_beq h; subst this; rfl
 ·have:=of_decide_eq_true h; subst this; rfl
 ·cases h
def ī {α β:Type} {x:rF α} {f:α->rF β} {r:β} (h:x.bind f=some r):∃a,x=some a/\f a=some r:=by
 cases x with
 |none=>cases h
 |some a=>exact⟨a,rfl,h⟩
def arr1 {α:Type} {a:Array α} {x:α} (h:a.toList=[x]):a=#[x]:=fo (by simpa using h)
def arr2 {α:Type} {a:Array α} {x y:α} (h:a.toList=[x,y]):a=#[x,y]:=fo (by simpa using h)
def ki {S:St} {a:Act} {o:Oper} {b:Builtin} {d:Array Operand} {tys:Array TypeId} {f:Array TypeId->TypeId->Array Value->Sem Value} (e:o.op=.call ⟨.builtin b,d,tys⟩)
 (hb:∀c vs,builtin b tys o.type c vs=(do pure (.value (<-f tys o.type vs)):Sem Next)) :
 execOp a.eval o=(do let u <-f tys o.type (d.map a.eval); pure (.value u)):=by
 unfold execOp;rw[e];simp only[resolve,pure_bind,invoke,hb]
def akO {S S':St} {a:Act} {o:Oper} {nid:Nat} {eat:Bool} {v:AV} {clone:Nat->Bool} (H:Sim ν S a w) (hn:Ā clone o.op=true->nid<S.h.length/\lkB S.h nid=.dead)
 (e:opR P S nid eat o.op=some (v,S')):agf ν S w ((execOp a.eval o).run P w) v S':=by
 have G:=H.heap
 cases A:o.op with
 |move x =>
  rw[A] at e; cases e;exact agf.still G (by unfold execOp; rw[A]; rfl) (Ĉ H x)
 |assign x =>
  rw[A] at e; cases e;exact agf.still G (by unfold execOp; rw[A]; rfl) (Ĉ H x)
 |pick c x y =>
  rw[A] at e;simp only[opR,opK] at e
  split at e<;>try (cases e; done)
  rename_i b hb;have T:=Ĉ H c;rw[hb] at T;have T:a.eval c=.bool b:=T
  have E:(execOp a.eval o).run P w=.ok (.value (if b then a.eval x else a.eval y)) w:=by unfold execOp; rw[A]; simp[asBool,T]
  split at e
  ·cases e; exact agf.still G E (Ĉ H x)
  ·cases e; exact agf.still G E (Ĉ H y)
 |box Z x =>
  rw[A] at e;simp only[opR,opK] at e
  split at e<;>try (cases e; done)
  rename_i cs U
  have E:execOp a.eval o=(do let u <-Instr.box Z (a.eval x); pure (.value u)):=by unfold execOp; rw[A]
  rw[E]
  split at e
  ·split at e<;>try (cases e; done)
   split at e<;>try (cases e; done)
   rename_i y K;cases e;exact(an3 G U K (Ĉ H x)).step
  ·cases e;obtain⟨B,h2⟩:=hn (by rw[A]; rfl);exact(box_ok G B h2 U (Ĉ H x)).step
 |alloc Z =>
  rw[A] at e;simp only[opR,opK] at e
  split at e<;>try (cases e; done)
  rename_i z hz
  split at e<;>try (cases e; done)
  rename_i cs U;cases e;obtain⟨B,h2⟩:=hn (by rw[A]; rfl)
  have E:execOp a.eval o=(do let u <-Instr.alloc Z true (.tuple #[]); pure (.value u)):=by unfold execOp; rw[A]
  rw[E];exact(al8 G B h2 hz U).step
 |build t ps =>
  rw[A] at e;simp only[opR,opK] at e
  have E:execOp a.eval o=(do let u <-Instr.build t (ps.map fun(i,x)=>(i,a.eval x)); pure (.value u)):=by unfold execOp; rw[A]
  rw[E]
  split at e<;>try (cases e; done)
  ·rename_i fs J
   split at e<;>try (cases e; done)
   rename_i hfs
   split at e<;>try (cases e; done)
   rename_i z hz
   split at e<;>try (cases e; done)
   rename_i zs hzs
   split at e<;>try (cases e; done)
   rename_i cs U;cases e;exact(SK H J hfs hz hzs U).step
  ·rename_i n Z J
   split at e<;>try (cases e; done)
   rename_i sz z V hz
   split at e<;>try (cases e; done)
   rename_i zs hzs
   split at e<;>try (cases e; done)
   rename_i cs U;cases e;exact(ab4 H J V hz hzs U).step
 |buildSlice t n ps =>
  rw[A] at e
  have E:execOp a.eval o=(do let u <-Instr.buildSlice t n (ps.map fun(i,x)=>(i,a.eval x)); pure (.value u)):=by unfold execOp; rw[A]
  rw[E];obtain⟨B,h2⟩:=hn (by rw[A]; rfl);simp only[opR,opK] at e
  split at e<;>try (cases e; done)
  rename_i Z hel
  split at e<;>try (cases e; done)
  rename_i ty hty
  split at e<;>try (cases e; done)
  rename_i T;simp only[dt,beq_iff_eq,decide_eq_true_eq] at T
  split at e<;>try (cases e; done)
  rename_i xs hxs;cases e;exact(WR H B h2 hel T.1 T.2.1 T.2.2 hxs).step
 |load t x =>
  rw[A] at e;simp only[opR,opK] at e;rw[uB] at e;obtain⟨O,B,h2⟩:=ī e;cases h2
  have E:execOp a.eval o=(do let u <-Instr.loadAt t (a.eval x); pure (.value u)):=by unfold execOp; rw[A]
  rw[E];obtain⟨u,R,Y⟩:=ah8 G B (Ĉ H x);exact(Ŏ.still G R Y).step
 |store t x y =>
  rw[A] at e;simp only[opR,opK] at e
  have E:execOp a.eval o=(do Instr.storeAt t (a.eval x) (a.eval y); pure .skip):=by unfold execOp; rw[A]
  rw[E]
  split at e
  ·split at e<;>try (cases e; done)
   rename_i id g lo n hsub
   split at e<;>try (cases e; done)
   rename_i ty g' xs hl
   split at e<;>try (cases e; done)
   rename_i T;simp only[dt,beq_iff_eq,decide_eq_true_eq] at T;obtain⟨rfl,hln⟩:=T;rw[pk] at e;obtain⟨h',B,h2⟩:=ī e;cases h2;have K:=Ĉ H y;rw[hsub] at K;obtain⟨ν1,v1,H1,ev1⟩:=anS G hl hln K;obtain⟨w',k1,k2,k3,k4⟩:=acs H1 B ((Ĉ H x).ev ev1) v1;refine⟨ν1,w',undef,.inr ⟨?_,rfl⟩,trivial,k2,ev1.trans k3 (fM (Û _ _ _).symm),k4.trans (Û _ _ _),rfl⟩;simp[k1]
  ·rw[pk] at e;obtain⟨h',B,h2⟩:=ī e;cases h2;exact xm (acs G B (Ĉ H x) (Ĉ H y))
 |nilCheck x =>
  rw[A] at e;simp only[opR,opK] at e;have C:=Ĉ H x
  split at e<;>try (cases e; done)
  ·rename_i id off he;cases e;rw[he] at C;have L:=C;obtain⟨cs,b,B,h2,R⟩:=L;exact agf.still G (by unfold execOp; rw[A]; simp only[R]; rfl) (R▸C)
  ·rename_i t x' off he;cases e;rw[he] at C;have L:=C;obtain⟨b,o',us,R,Y⟩:=L;exact agf.still G (by unfold execOp; rw[A]; simp only[R]; rfl) (R▸C)
  ·rename_i id g i off he
   split at e<;>try (cases e; done)
   rename_i t g' fz xs hl
   split at e<;>try (cases e; done)
   rename_i hgg;cases e;rw[he] at C;have L:=C;obtain⟨ho,t2,g2,fz2,xs2,hl2,hle,hf⟩:=L;rw[hl] at hl2; cases hl2;obtain⟨_,b,o',cap,_,R⟩:=hf (eq_of_beq hgg);exact agf.still G (by unfold execOp; rw[A]; simp only[R]; rfl) (R▸C)
 |binOp op t x y yt =>
  rw[A] at e;simp only[opR,opK] at e
  have E:execOp a.eval o=(do let u <-(do eqGuard op t x y (a.eval x) (a.eval y); binOp op t (a.eval x) (a.eval y)); pure (.value u)):=by unfold execOp; rw[A]
  rw[E]
  split at e
  ·rename_i hnil
   have K:y=.const .nilIface:=by
    unfold ais at hnil
    split at hnil
    ·rfl
    ·cases hnil
   subst K;rw[Az] at e;obtain⟨O,B,h2⟩:=ī e;cases h2;exact(ifc_ok x G B (Ĉ H x)).step
  ·rw[A0] at e;obtain⟨O,B,h2⟩:=ī e;cases h2;exact(al1 x y G B (Ĉ H x) (Ĉ H y)).step
 |unOp op t x =>
  rw[A] at e;simp only[opR,opK] at e
  have E:execOp a.eval o=(do let u <-Op.unary op (a.eval x); pure (.value u)):=by unfold execOp; rw[A]
  rw[E];have C:=Ĉ H x
  split at e<;>try (cases e; done)
  ·rename_i b he;cases e;rw[he] at C;exact(ags (op:=.not) G C rfl).step
  ·rename_i k n he;rw[Ed] at e;obtain⟨O,B,h2⟩:=ī e;cases h2;rw[he] at C;exact(ags (op:=.neg) G C B).step
 |convert src dst x =>
  rw[A] at e;simp only[opR,opK] at e
  have E:execOp a.eval o=(do let u <-convert src dst (a.eval x); pure (.value u)):=by unfold execOp; rw[A]
  rw[E];have C:=Ĉ H x
  split at e<;>try (cases e; done)
  ·rename_i d k k' n V hd he;cases e;rw[he] at C;have C:a.eval x=.int k' n:=C;refine(Ŏ.still (v:=.int k (k.wrap n)) (u:=.int k (k.wrap n)) G ?_ rfl).step;rw[C];simp only[convert,Sem.run_bind,run_underlying V,run_underlying hd,Result.andThen_ok];simp[Conv.intToInt]
  ·rename_i Z V hd
   split at e<;>try (cases e; done)
   rename_i hu8;rw[pD] at e;obtain⟨O,B,h2⟩:=ī e;cases h2;exact(al0 G V hd (akr hu8) C B).step
 |makeFunc fn first caps =>
  rw[A] at e;simp only[opR,opK] at e
  split at e<;>try (cases e; done)
  rename_i T;simp only[dt,dM] at T;cases e
  have E:execOp a.eval o=(do let u <-Instr.makeFunc fn (first.map a.eval) (caps.map a.eval); pure (.value u)):=by unfold execOp; rw[A]
  rw[E];refine(Ŏ.still (v:=.fn fn (first.toList.map (ev S.t)) (caps.toList.map (ev S.t))) (u:=.func fn (first.map a.eval) (caps.map a.eval)) G rfl ⟨_,_,rfl,?_,?_⟩).step
  ·rw[f5];exact ÿ.of_map fun x E=>air (T.1 _ (List.mem_map_of_mem E)) (Ĉ H x)
  ·rw[f5];exact ÿ.of_map fun x E=>air (T.2 _ (List.mem_map_of_mem E)) (Ĉ H x)
 |makeMap t r =>
  rw[A] at e;simp only[opR,opK] at e
  split at e<;>try (cases e; done)
  rename_i kt et J;obtain⟨B,h2⟩:=hn (by rw[A]; rfl)
  have E:execOp a.eval o=(do let u <-Instr.makeMap t none; pure (.value u)):=by unfold execOp; rw[A]; rfl
  rw[E]
  split at e<;>try (cases e; done)
  ·rename_i k O hk C
   split at e<;>try (cases e; done)
   cases e;exact(aeT k O G B h2).step
  ·split at e<;>try (cases e; done)
   cases e;exact(aeU G B h2).step
 |makeSlice t l c =>
  rw[A] at e;simp only[opR,opK] at e
  split at e<;>try (cases e; done)
  rename_i k n Z hsame hl hel
  split at e<;>try (cases e; done)
  rename_i ty hty
  split at e<;>try (cases e; done)
  rename_i hrow
  split at e<;>try (cases e; done)
  rename_i zs hzs
  split at e<;>try (cases e; done)
  rename_i z hz
  split at e<;>try (cases e; done)
  rename_i hb;simp only[dt,decide_eq_true_eq,Î] at hb;cases e;obtain⟨B,h2⟩:=hn (by rw[A]; rfl);have C:=Ĉ H l;rw[hl] at C;have C:a.eval l=.int k n:=C
  have T:a.eval c=.int k n:=by rw[<-agJ (S:=S) hsame,C]
  have E:execOp a.eval o=(do let u <-Instr.makeSlice t (.int k n) (.int k n); pure (.value u)):=by unfold execOp; rw[A]; simp only[C,T]
  rw[E];exact(Ys G B h2 hel hrow hzs hz hb.1 hb.2).step
 |slice t x lo hi mx =>
  rw[A] at e;simp only[opR,opK] at e
  split at e<;>try (cases e; done)
  all_goals
   have E:execOp a.eval o=(do let u <-Instr.sliceAt t (a.eval x) (lo.map a.eval) (hi.map a.eval) none; pure (.value u)):=by unfold execOp; rw[A]; rfl
   rw[E]
  ·rename_i Z J
   split at e<;>try (cases e; done)
   rename_i sz V;rw[Ab] at e;obtain⟨⟨O,h'⟩,B,h2⟩:=ī e;cases h2;refine(akz G J V B (Ĉ H x) (fun y K=>?_) (fun K=>?_) (fun y K=>?_) (fun K=>?_)).step
   ·cases lo with
    |none=>cases K
    |some l=>cases K; exact⟨_,rfl,Ĉ H l⟩
   ·cases lo with
    |none=>rfl
    |some l=>cases K
   ·cases hi with
    |none=>cases K
    |some l=>cases K; exact⟨_,rfl,Ĉ H l⟩
   ·cases hi with
    |none=>rfl
    |some l=>cases K
  ·rename_i J;have C:=Ĉ H x
   split at e<;>try (cases e; done)
   rename_i s V;rw[V] at C;have C:a.eval x=.string s:=C;rw[ja] at e;obtain⟨O,B,h2⟩:=ī e;cases h2;rw[C];refine(aaJ G J B (fun y K=>?_) (fun K=>?_) (fun y K=>?_) (fun K=>?_)).step
   ·cases lo with
    |none=>cases K
    |some l=>cases K; exact⟨_,rfl,Ĉ H l⟩
   ·cases lo with
    |none=>rfl
    |some l=>cases K
   ·cases hi with
    |none=>cases K
    |some l=>cases K; exact⟨_,rfl,Ĉ H l⟩
   ·cases hi with
    |none=>rfl
    |some l=>cases K
 |fieldAddr t x f =>
  rw[A] at e;simp only[opR,opK] at e
  split at e<;>try (cases e; done)
  rename_i fs J
  split at e<;>try (cases e; done)
  rename_i fd hf
  split at e<;>try (cases e; done)
  rename_i n V;rw[pn] at e;obtain⟨O,B,h2⟩:=ī e;cases h2
  have E:execOp a.eval o=(do let u <-Instr.fieldAt t (a.eval x) f; pure (.value u)):=by unfold execOp; rw[A]
  rw[E];exact(ZK G J hf V B (Ĉ H x)).step
 |field t x f =>
  rw[A] at e;simp only[opR,opK] at e;have C:=Ĉ H x
  split at e<;>try (cases e; done)
  rename_i fs cs J T
  split at e<;>try (cases e; done)
  rename_i fd hf
  split at e<;>try (cases e; done)
  rename_i agg n hl
  split at e<;>try (cases e; done)
  rename_i ds hg
  split at e<;>try (cases e; done)
  rename_i O W;cases e;rw[T] at C
  have E:execOp a.eval o=(do let u <-Instr.field t (a.eval x) f; pure (.value u)):=by unfold execOp; rw[A]
  rw[E];exact(alu G J hf hl hg W C).step
 |indexAddr t x i =>
  rw[A] at e;simp only[opR,opK] at e
  have E:execOp a.eval o=(do let u <-Instr.indexAt t (a.eval x) (a.eval i); pure (.value u)):=by unfold execOp; rw[A]
  rw[E]
  split at e<;>try (cases e; done)
  ·rename_i Z J
   split at e<;>try (cases e; done)
   rename_i sz V;rw[pu] at e;obtain⟨O,B,h2⟩:=ī e;cases h2;exact(aln G J V B (Ĉ H x) (Ĉ H i)).step
  ·rename_i n Z J;have C:=Ĉ H x;have hi:=Ĉ H i
   split at e<;>try (cases e; done)
   rename_i id off k j hx' hi'
   split at e<;>try (cases e; done)
   rename_i sz V;rw[ir] at e;obtain⟨q,B,h2⟩:=ī e;obtain⟨rfl,_,hb⟩:=HN B;cases h2;rw[hx'] at C;rw[hi'] at hi;have hi:a.eval i=.int k (q:Int):=hi;rw[hi];have:=(PP G J (j:=(q:Int)) (k:=k) ⟨by omega,by omega⟩ V C).step;simpa using this
 |index t x i =>
  rw[A] at e;simp only[opR,opK] at e
  have E:execOp a.eval o=(do let u <-Instr.index t (a.eval x) (a.eval i); pure (.value u)):=by unfold execOp; rw[A]
  rw[E];have C:=Ĉ H x;have hi:=Ĉ H i
  split at e<;>try (cases e; done)
  ·rename_i n Z cs k j J hx' hi';rw[ir] at e;obtain⟨q,B,h2⟩:=ī e;obtain⟨rfl,_,hb⟩:=HN B
   split at h2<;>try (cases h2; done)
   rename_i agg m hl
   split at h2<;>try (cases h2; done)
   rename_i ds hg
   split at h2<;>try (cases h2; done)
   rename_i O W;cases h2;rw[hx'] at C;rw[hi'] at hi;have hi:a.eval i=.int k (q:Int):=hi;rw[hi];exact(abC G J (j:=(q:Int)) (k:=k) ⟨by omega,by omega⟩ hl (by simpa using hg) W C).step
  ·rename_i s k j J hx' hi';rw[jb] at e;obtain⟨O,B,h2⟩:=ī e;cases h2;rw[hx'] at C;rw[hi'] at hi;have hi:a.eval i=.int k j:=hi;have C:a.eval x=.string s:=C;rw[hi,C];exact(aaK G J B).step
 |lookup t m i ok =>
  rw[A] at e;simp only[opR,opK] at e
  have E:execOp a.eval o=(do let u <-Instr.lookup t (a.eval m) (a.eval i) ok; pure (.value u)):=by unfold execOp; rw[A]
  rw[E];have W:=Ĉ H m
  split at e
  ·rename_i id hid;rw[hid] at W;rw[mz] at e;obtain⟨O,B,h2⟩:=ī e;cases h2;exact(afj G B W (Ĉ H i)).step
  ·rw[my] at e;obtain⟨O,B,h2⟩:=ī e;cases h2;exact(ah3 G B W (Ĉ H i)).step
 |mapUpdate t m i x =>
  rw[A] at e;simp only[opR,opK] at e
  have E:execOp a.eval o=(do Instr.mapUpdate t (a.eval m) (a.eval i) (a.eval x); pure .skip):=by unfold execOp; rw[A]
  rw[E];have W:=Ĉ H m
  split at e
  ·rename_i id hid;rw[hid] at W;rw[jT] at e;obtain⟨h',B,h2⟩:=ī e;cases h2;exact xm (EO G B W (Ĉ H i) (Ĉ H x))
  ·rw[jS] at e;obtain⟨h',B,h2⟩:=ī e;cases h2;exact xm (Jv G B W (Ĉ H i) (Ĉ H x))
 |insert t m i x =>
  rw[A] at e;simp only[opR,opK] at e
  have E:execOp a.eval o=(do Instr.mapUpdate t (a.eval m) (a.eval i) (a.eval x); pure .skip):=by unfold execOp; rw[A]
  rw[E];have W:=Ĉ H m
  split at e
  ·rename_i id hid;rw[hid] at W;rw[jT] at e;obtain⟨h',B,h2⟩:=ī e;cases h2;exact xm (EO G B W (Ĉ H i) (Ĉ H x))
  ·rw[jS] at e;obtain⟨h',B,h2⟩:=ī e;cases h2;exact xm (Jv G B W (Ĉ H i) (Ĉ H x))
 |range t x =>
  rw[A] at e;simp only[opR,opK] at e
  split at e<;>try (cases e; done)
  rename_i s J C;cases e;obtain⟨B,h2⟩:=hn (by rw[A]; rfl)
  have E:execOp a.eval o=(do let u <-Instr.range t (a.eval x); pure (.value u)):=by unfold execOp; rw[A]
  have L:=Ĉ H x;rw[C] at L;have L:a.eval x=.string s:=L;rw[E,L];exact(agX G B h2 J).step
 |next x b =>
  rw[A] at e;simp only[opR,opK] at e
  cases b with
  |false=>cases e
  |true =>
  have E:execOp a.eval o=(do let u <-Instr.next (a.eval x) true o.type; pure (.value u)):=by unfold execOp; rw[A]
  rw[E];rw[EL] at e;obtain⟨⟨O,h'⟩,B,h2⟩:=ī e;cases h2;exact(anl G B (Ĉ H x)).step
 |extract x i =>
  rw[A] at e;simp only[opR,opK] at e;have C:=Ĉ H x
  split at e<;>try (cases e; done)
  rename_i vs hvs
  split at e<;>try (cases e; done)
  rename_i O L;cases e;rw[hvs] at C;obtain⟨us,hu,h2⟩:=C;obtain⟨u,R,Y⟩:=h2.get L;refine agf.still G (u:=u) (by unfold execOp; rw[A]; simp only[hu]; simp at R; simp[Instr.extract,R]) ?_
  cases J:v.isTup with
  |true =>
   cases v<;>try cases J
   exact Y.elim
  |false=>rw[vZ J]; exact Y
 |call c =>
  obtain⟨f,args,tys⟩:=c;rw[A] at e
  cases f with
  |value f=>cases e
  |invoke r n=>cases e
  |builtin b =>
   simp only[opR,opK] at e
   split at e
   ·-- len
    rename_i x t rest I N;rw[As] at e;obtain⟨O,B,h2⟩:=ī e;cases h2;rw[ki (S:=S) (f:=Builtin.len_) A (fun _ _=>rfl),arr1 I,show Array.map a.eval #[x]=#[a.eval x] by simp]
    have ht0:tys[0]?=some t:=by rw[<-fW,N]; rfl
    exact(len_ok G B (Ĉ H x) ht0).step
   ·rename_i s x t t' I N;obtain⟨B,h2⟩:=hn (by rw[A]; rfl);rw[ki (S:=S) (f:=Builtin.append_) A (fun _ _=>rfl),arr2 I,arr2 N,show Array.map a.eval #[s,x]=#[a.eval s,a.eval x] by simp]
    split at e
    ·rename_i htt;have htt:=eq_of_beq htt;subst htt;rw[vX] at e;obtain⟨⟨O,h'⟩,R,Y⟩:=ī e;cases Y;exact(ajQ G B h2 R (Ĉ H s) (Ĉ H x)).step
    ·split at e<;>try (cases e; done)
     rename_i hu;rw[zY] at e;obtain⟨⟨O,h'⟩,R,Y⟩:=ī e;cases Y;exact(akl G B h2 hu R (Ĉ H s) (Ĉ H x)).step
   ·rename_i x t I N
    split at e<;>try (cases e; done)
    rename_i d hd;rw[AX] at e;obtain⟨h',B,h2⟩:=ī e;cases h2;rw[ki (S:=S) (f:=Builtin.clear_) A (fun _ _=>rfl),arr1 I,show Array.map a.eval #[x]=#[a.eval x] by simp]
    have ht0:tys[0]?=some t:=by rw[<-fW,N]; rfl
    exact(alB ht0 G B (by rw[hd]; rfl) (Ĉ H x)).step
   ·rename_i x t rest I N
    split at e<;>try (cases e; done)
    rename_i Z J E;cases e;have C:=Ĉ H x;rw[E] at C;have C:a.eval x=.slice none 0 0:=C;rw[ki (S:=S) (f:=Builtin.cap_) A (fun _ _=>rfl),arr1 I]
    have ht0:tys[0]?=some t:=by rw[<-fW,N]; rfl
    exact(Ŏ.still (v:=.int .i64 0) (u:=.int .i64 0) G (by simp[Builtin.cap_,ht0,C,run_underlying J,goInt]) rfl).step
   ·rename_i x xs I;rw[π] at e;obtain⟨O,B,h2⟩:=ī e;cases h2;rw[ki (S:=S) (f:=Builtin.min_) A (fun _ _=>rfl)];obtain⟨u,R,Y⟩:=M3 (P:=P) (f:=Builtin.min2) (gt:=false) (fun k p q=>akE k p q) (xs.map (ev S.t)) (xs.map a.eval) _ v (a.eval x) B (Ĉ H x) (ÿ.of_map fun y _=>Ĉ H y);refine(Ŏ.still G ?_ Y).step;simp only[Builtin.min_,f5,I,eM];exact R
   ·rename_i x xs I;rw[π] at e;obtain⟨O,B,h2⟩:=ī e;cases h2;rw[ki (S:=S) (f:=Builtin.max_) A (fun _ _=>rfl)];obtain⟨u,R,Y⟩:=M3 (P:=P) (f:=Builtin.max2) (gt:=true) (fun k p q=>akF k p q) (xs.map (ev S.t)) (xs.map a.eval) _ v (a.eval x) B (Ĉ H x) (ÿ.of_map fun y _=>Ĉ H y);refine(Ŏ.still G ?_ Y).step;simp only[Builtin.max_,f5,I,eM];exact R
   ·cases e
 |_=>rw[A] at e; cases e
end
end Go.Am
end

noncomputable section
namespace Go.Am
variable [Globs] [Ghost]
def Į (nid:Nat) (h h':rT Blk):Prop:=∀j,j≠nid->lkB h j=.dead->lkB h' j=.dead
def Į.refl (nid:Nat) (h:rT Blk):Į nid h h:=fun _ _ hd=>hd
def Į.upd {nid id:Nat} {h:rT Blk} (B:Blk) (b:id=nid\/lkB h id≠.dead):Į nid h (î h id B):=fun j c hd=>by
 rw[Ð]
 ·exact hd
 ·rintro rfl;rcases b with rfl|b
  ·exact c rfl
  ·exact b hd
def Į.trans {nid:Nat} {h h' b:rT Blk} (d:Į nid h h') (h2:Į nid h' b):Į nid h b:=fun j c hd=>h2 j c (d j c hd)
def Į.frz {nid:Nat} {h:rT Blk} (v:AV):Į nid h (frz h v):=fun _ _ hd=>adD hd
def Į.frzA {nid:Nat} {h:rT Blk} (ps:rT (Nat×AV)):Į nid h (frzA h ps):=fun _ _ hd=>PT ps hd
def vd {h:rT Blk} {id:Nat} {B:Blk} (b:lkB h id=B) (c:B≠.dead):lkB h id≠.dead:=by rw[b]; exact c
def anI {v:AV} {id:Nat} {h:rT Blk} {k u:Ty} {es:rT (Val k×Val u)} (b:lkB h id=.map k u es):lkB (frz h v) id=.map k u es:=by
 unfold frz; split
 ·exact Wr _ b
 ·exact adG b
def SV {P:Program} {h h':rT Blk} {t:TypeId} {a v:AV} {nid:Nat} (b:qR P h t a v some=some h'):Į nid h h':=by
 unfold qR at b
 (repeat' split at b)<;>first
  |(cases b; done)
  |(cases b; exact Į.upd _ (.inr (vd ‹lkB h _=.cells _› (by simp))))
  |(cases b; exact(Į.frz _).trans (Į.upd _ (.inr (vd ‹lkB (frz h _) _=.row _ _ _ _› (by simp)))))
def ahd {P:Program} {S d:St} {o:Op} {nid:Nat} {eat:Bool} {v:AV} (e:opR P S nid eat o=some (v,d)):Į nid S.h d.h:=by
 unfold opR opK at e;dsimp only at e
 (repeat' split at e)<;>first
  |(cases e; done)
  |(cases e; exact Į.refl _ _)
  |(cases e; exact Į.upd _ (.inl rfl))
  |(cases e; exact(Į.frzA _).trans (Į.upd _ (.inl rfl)))
  |(rw[uB] at e; obtain⟨c,b,h2⟩:=ī e; cases h2; exact Į.refl _ _)
  |(rw[A0] at e; obtain⟨c,b,h2⟩:=ī e; cases h2; exact Į.refl _ _)
  |(rw[Ed] at e; obtain⟨c,b,h2⟩:=ī e; cases h2; exact Į.refl _ _)
  |(rw[pn] at e; obtain⟨c,b,h2⟩:=ī e; cases h2; exact Į.refl _ _)
  |(rw[pu] at e; obtain⟨c,b,h2⟩:=ī e; cases h2; exact Į.refl _ _)
  |(rw[Az] at e; obtain⟨c,b,h2⟩:=ī e; cases h2; exact Į.refl _ _)
  |(rw[pD] at e; obtain⟨c,b,h2⟩:=ī e; cases h2; exact Į.refl _ _)
  |(rw[ja] at e; obtain⟨c,b,h2⟩:=ī e; cases h2; exact Į.refl _ _)
  |(rw[jb] at e; obtain⟨c,b,h2⟩:=ī e; cases h2; exact Į.refl _ _)
  |(rw[mz] at e; obtain⟨c,b,h2⟩:=ī e; cases h2; exact Į.refl _ _)
  |(rw[my] at e; obtain⟨c,b,h2⟩:=ī e; cases h2; exact Į.refl _ _)
  |(rw[As] at e; obtain⟨c,b,h2⟩:=ī e; cases h2; exact Į.refl _ _)
  |(rw[π] at e; obtain⟨c,b,h2⟩:=ī e; cases h2; exact Į.refl _ _)
  |(rw[pk] at e; obtain⟨h',b,h2⟩:=ī e; cases h2; exact SV b)
  | (rw [pk] at e; obtain ⟨h', b, h2⟩ := ī e; cases h2
     exact(Į.upd _ (.inr (vd ‹lkB S.h _=.row _ _ _ _› (by simp)))).trans (SV b))
  | (rw [Ab] at e; obtain ⟨⟨c, h'⟩, b, h2⟩ := ī e; cases h2
     unfold pJ at b
     (repeat' split at b)<;>first
      |(cases b; done)
      |(cases b; exact Į.refl _ _)
      |(cases b; exact Į.upd _ (.inr (vd ‹lkB S.h _=.row _ _ _ _› (by simp)))))
  | (rw [vX] at e; obtain ⟨⟨c, h'⟩, b, h2⟩ := ī e; cases h2
     unfold vY at b
     (repeat' split at b)<;>first
      |(cases b; done)
      |(cases b; exact Į.upd _ (.inl rfl))
      |(cases b; exact Į.upd _ (.inr (vd ‹lkB S.h _=.row _ _ _ _› (by simp)))))
  | (rw [zY] at e; obtain ⟨⟨c, h'⟩, b, h2⟩ := ī e; cases h2
     unfold Eh at b
     (repeat' split at b)<;>first
      |(cases b; done)
      |(cases b; exact Į.upd _ (.inl rfl)))
  | (rw [AX] at e; obtain ⟨h', b, h2⟩ := ī e; cases h2
     unfold Hs at b
     (repeat' split at b)<;>first
      |(cases b; done)
      |(cases b; exact Į.refl _ _)
      |(cases b; exact Į.upd _ (.inr (vd ‹lkB S.h _=.row _ _ _ _› (by simp)))))
  | (rw [ir] at e; obtain ⟨q, b, h2⟩ := ī e
     (repeat' split at h2)<;>first
      |(cases h2; done)
      |(cases h2; exact Į.refl _ _))
  | (rw [jT] at e; obtain ⟨h', b, h2⟩ := ī e; cases h2
     unfold Ŧ at b
     (repeat' split at b)<;>first
      |(cases b; done)
      |(cases b; exact Į.upd _ (.inr (vd ‹lkB S.h _=.fns _› (by simp)))))
  | (rw [EL] at e; obtain ⟨⟨c, h'⟩, b, h2⟩ := ī e; cases h2
     unfold Vw at b
     (repeat' split at b)<;>first
      |(cases b; done)
      |(cases b; exact Į.refl _ _)
      |(cases b; exact Į.upd _ (.inr (vd ‹lkB S.h _=.iter _ _› (by simp)))))
  | (rw [jS] at e; obtain ⟨h', b, h2⟩ := ī e; cases h2
     unfold ť at b
     (repeat' split at b)<;>first
      |(cases b; done)
      |(cases b; exact(Į.frz _).trans (Į.upd _ (.inr (vd (anI ‹lkB S.h _=.map _ _ _›) (by simp))))))
end Go.Am
end

noncomputable section
namespace Go.Am
variable [Globs] [Ghost]
section
variable {ρ:Type} {ν ν':Nat->Value} {h h':rT Blk} {w w':World} {P:Program}
def Ev.same (d:∀id,lkB h' id=lkB h id) (c:w'.heap=w.heap) (j:w'.os=w.os) (h2:w'.tape=w.tape) (i:w'.output=w.output) (m:Nat):Ev m ν h w ν h' w' :=
 ⟨j,h2,i,by rw[c]; exact du _,fun b _ hb=>⟨by rw[c],fun⟨id,f,e⟩=>hb ⟨id,by rwa [d] at f,e⟩⟩,fun id _=>by rw[d]; exact Blk.next_refl _ _ _⟩
def HR.same (H:HR ν h w) (d:∀id,lkB h' id=lkB h id) (c:w'.heap=w.heap) (l:w'.os=w.os) (h2:w'.tape=w.tape) (k:w'.output=w.output):HR ν h' w':=by
 refine⟨fun id=>?_,fun i j b e f=>H.inj i j b (by rwa [d] at e) (by rwa [d] at f),fun b hb=>by rw[c]; exact H.ghlt b hb,fun id b e=>H.ghne id b (by rwa [d] at e),Globs.keep _ _ H.glob (fun b _=>by rw[c]),fun b hb ⟨id,e,f⟩=>H.globL b hb ⟨id,by rwa [d] at e,f⟩⟩;rw[d];exact BR.ev (Ev.same d c l h2 k _) (fun b o hb _=>by rw[c]; exact hb) (fun b hb=>by rw[c]) rfl (fun b _ _ _=>by rw[c]) (H.blk id)
def Sim.same {S:St} {a:Act} (H:Sim ν S a w) (d:∀id,lkB h' id=lkB S.h id) (c:w'.heap=w.heap) (f:w'.os=w.os) (h2:w'.tape=w.tape) (e:w'.output=w.output):Sim ν {t:=S.t,h:=h'} a w' :=
 ⟨H.defers.keep (by rw[c]; exact du _) (fun b o hb _=>by rw[c]; exact hb),H.len,fun i=>(H.tmps i).ev (Ev.same d c f h2 e _),H.heap.same d c f h2 e⟩
def GG:∀(h:rT Blk) (d:Nat),h.length<=d->lkB h d=.dead
 |[],_,_=>rfl
 |x::xs,0,h=>by simp at h
 |x::xs,d+1,h=>by simpa[Wi,Wj,Wh] using GG xs d (by simpa using h)
def PH:∀(h:rT Blk) (n id:Nat),lkB (h++List.replicate n .dead) id=lkB h id
 |[],0,_=>rfl
 |[],n+1,0=>rfl
 |[],n+1,id+1=>by simpa[List.replicate_succ,Wi,Wj,Wh] using PH [] n id
 |x::xs,n,0=>rfl
 |x::xs,n,id+1=>by simpa[Wi,Wj,Wh] using PH xs n id
abbrev fen:Fence:={Fence.wide with round:=Ghost.Q}
def aek (P:Program) (L:Nat) (call:rT Nat->Bool->Nat->rT AV->rT Blk->(AV->rT Blk->rF ρ)->rF ρ):Prop :=
 ∀path d g b h (K:AV->rT Blk->rF ρ) r,path.length=L->call path d g b h K=some r->∀ν w vals,HR ν h w->Ghost.B<=w.heap.size->ÿ (VR ν h w) b vals ->
  (∃fn c,P.funcs[g]?=some fn/\fn.body=some c) /\
  CallsIn Fence.wide 0 P g vals.toArray w fun e w'=>∃ν' h' v u,e=.returned u/\VR ν' h' w' v u/\HR ν' h' w'/\Ev h.length ν h w ν' h' w'/\h.length<=h'.length/\(∀j,j<h.length->lkB h j=.dead->lkB h' j=.dead)/\K v h'=some r
def Ja (P:Program) (clone:Nat->Bool):Prop :=
 ∀g,clone g=true->∀fz S nid x v b,wR P g fz S nid x (fun v S=>some (v,S))=some (v,b)->∀ν w u,HR ν S.h w->VR ν S.h w x u->nid<S.h.length->lkB S.h nid=.dead ->
  (∃fn c,P.funcs[g]?=some fn/\fn.body=some c) /\
  CallsIn Fence.wide 0 P g #[u] w fun e w'=>∃ν' u',e=.returned u'/\VR ν' b.h w' v u'/\HR ν' b.h w'/\Ev S.h.length ν S.h w ν' b.h w'/\S.h.length<=b.h.length/\Į nid S.h b.h/\b.t=S.t
def IY (P:Program) (g:Nat) (fz:Bool) (S:St) (nid:Nat) (x:AV) (K:AV->St->rF ρ):wR P g fz S nid x K=(wR P g fz S nid x fun v S=>some (v,S)).bind fun r=>K r.1 r.2:=by
 unfold wR; (repeat' split)<;>rfl
def Aft (m:Nat) (ν:Nat->Value) (h:rT Blk) (w:World) (K:St->rF ρ) (r:ρ) (c:Act) (w':World):Prop :=
 ∃ν' b,Sim ν' b c w'/\Ev m ν h w ν' b.h w'/\h.length<=b.h.length/\K b=some r
def Aft.trans {m f:Nat} {K:St->rF ρ} {r:ρ} {i:Act} {ν b:Nat->Value} {h c:rT Blk} {w d w':World} (e:Ev m ν h w b c d) (k:h.length<=c.length) (j:m<=f) (ha:Aft f b c d K r i w'):Aft m ν h w K r i w':=by
 obtain⟨ν',q,p,h2,o,l⟩:=ha;exact⟨ν',q,p,e.trans h2 j,dG k o,l⟩
def op_nid {S:St} {o:Op} {nid nid':Nat} {eat:Bool} {clone:Nat->Bool} (d:Ā clone o=false):opR P S nid eat o=opR P S nid' eat o:=by
 cases o<;>try first|rfl|(cases d; done)
 rename_i c;obtain⟨f,e,tys⟩:=c
 cases f<;>try rfl
 rename_i b
 cases b<;>first|(cases d; done)|rfl|(unfold opR opK; dsimp only; (repeat' split)<;>first|rfl|simp_all)
def YldP (P:Program) (y:YFun):Prop:=∃f:y.ty=Ghost.T,∀(O X:Nat->Prop) (c:rT (Val Ghost.T)) (v:Val Ghost.T) (u:Value) (W:World),Ghost.J O X c W->(∀b,O b->X b)->(∀b,X b->b<W.heap.size)->(c++[v] <+: uQ (F:=fun t=>rT (Val t)) f y.all)->CR W X Ghost.T v [u]->Ghost.B<=W.heap.size ->
 YieldAt Fence.wide 0 P Ghost.L #[u] W fun e d=>e=.returned (.bool (ygo y.stop (uQ (F:=fun t=>rT (Val t)) f y.all) (c++[v])))/\d.os=W.os/\d.tape=W.tape/\d.output=W.output/\W.heap.size<=d.heap.size /\
  ∃us,(∀b,b<W.heap.size->¬O b->d.heap[b]?=W.heap[b]?/\¬Ĭ (.agg us) b)/\(∀b,Ĭ (.agg us) b->∃o,d.heap[b]?=some o/\LX o=true)/\Ghost.J (Ĭ (.agg us)) (fun b=>(X b/\¬O b)\/Ĭ (.agg us) b) (c++[v]) d
def Γ (E:Env ρ):Prop:=∀y,E.yld=some y->YldP E.P y
def ŝ {E:Env ρ} (h:E.yld=none):Γ E:=fun y e=>by rw[h] at e; cases e
def amJ {α:Type} {all l:rT α} {k:rF ρ} {r:ρ} (h:yg all l k=some r):l <+: all/\k=some r:=by
 unfold yg at h
 split at h
 ·exact⟨‹_›,h⟩
 ·cases h
def akm {t:Ty} {b:Bool} {all l:rT (Val t)} {k:rF ρ} {r:ρ} (h:ygf b all l k=some r):l <+: all/\k=some r:=by
 unfold ygf at h
 split at h
 ·exact amJ h
 ·split at h
  ·exact⟨acH ‹_›,h⟩
  ·cases h
def aeo {t:Ty} (b:t.isAgg=false) {a:AV} {v:Val t} (e:Ü t [a]=some v):a.isAgg=false/\a.isTup=false:=by
 cases t<;>first|(cases b; done)|(cases a<;>first|exact⟨rfl,rfl⟩|cases e)
def aaL (h:rT Blk) {a:AV} (e:(ñ h a).isAgg=false/\(ñ h a).isTup=false):a.isAgg=false/\a.isTup=false:=by
 cases a<;>first|exact⟨rfl,rfl⟩|exact e
def ago {E:Env ρ} (hy:Γ E) {x:AV} {u:Value} {K:AV->rT Blk->rF ρ} {r:ρ} (H:HR ν h w) (hv:VR ν h w x u) (hB:Ghost.B<=w.heap.size) (e:yldK E h x K=some r) :
 YieldAt Fence.wide 0 E.P Ghost.L #[u] w fun e w'=>∃b,e=.returned (.bool b)/\∃ν' h',HR ν' h' w'/\Ev h.length ν h w ν' h' w'/\h'.length=h.length/\(∀j,lkB h j=.dead->lkB h' j=.dead)/\K (.bool b) h'=some r:=by
 unfold yldK at e
 split at e<;>try (cases e; done)
 rename_i y hE
 split at e<;>try (cases e; done)
 rename_i U
 split at e<;>try (cases e; done)
 rename_i J
 split at e<;>try (cases e; done)
 rename_i v l
 split at e<;>try (cases e; done)
 rename_i t xs f
 split at e<;>try (cases e; done)
 rename_i he hq;clear hq;obtain⟨ty,all,stp⟩:=y;obtain⟨hT,hY⟩:=hy _ hE;have R:t=ty:=he;subst R;have W:t=Ghost.T:=hT;subst W;obtain⟨p,hk⟩:=akm e;obtain⟨G,C⟩:=aaL h (aeo U l);have I:=hv.one G C;obtain⟨Y,k,_⟩:=PV H x;have S:CR w (Av ν (qC h x)) Ghost.T v [u]:=ċ l ⟨PU H I J,trivial⟩;have hb:=k.blk 0;rw[f] at hb;obtain⟨us0,h1,h2,h3,h4⟩:=hb;obtain⟨fn,tmps,assign,body,m,hR⟩:=hY _ _ xs v u w h4 (fun b hb=>.inl ⟨0,by rw[f]; rfl,hb⟩) (fun b hb=>k.ltA hb) p S hB;refine⟨fn,tmps,assign,body,m,hR.mono fun e' w' hw=>?_⟩;obtain⟨rfl,o1,o2,o3,o4,us,Z,o6,o7⟩:=hw;refine⟨_,rfl,?_⟩
 have c:(lkB (qC h x) 0).live=true:=by rw[f]; rfl
 have z:0<(qC h x).length:=Ν f (by simp);have d:∀b,b<w.heap.size->((lkB (qC h x) 0).live=true->¬Ĭ (ν 0) b)->w'.heap[b]?=w.heap[b]?:=fun b hb s=>(Z b hb (s c)).1
 have hV:(Blk.acc Ghost.T (xs++[v])).live=true->∀b,Ĭ (.agg us) b->((lkB (qC h x) 0).live=true/\Ĭ (ν 0) b)\/w.heap.size<=b:=fun _ b hb=>by
  rcases dV b w.heap.size with N|O
  ·by_cases ho:Ĭ (ν 0) b
   ·exact .inl ⟨c,ho⟩
   ·exact absurd hb (Z b N ho).2
  ·exact .inr O
 have A:=Ev.upd k (B:=.acc Ghost.T (xs++[v])) (V:=.agg us) z o1 o2 o3 o4 d hV (by rw[f]; exact⟨_,rfl⟩)
 have H2:HR (ý ν 0 (.agg us)) (î (qC h x) 0 (.acc Ghost.T (xs++[v]))) w':=by
  refine HR.upd k z A d hV ⟨us,Õ _ _ _,?_,rfl,?_⟩
  ·rw[Õ]; exact o6
  ·rw[Õ];refine Ghost.st _ _ _ _ _ _ o7 ⟨rfl,rfl,rfl,du _,fun b _ s=>?_,fun b o hb _ _=>hb,fun b o hb _ _=>hb,fun _ _ _=>rfl⟩;rintro(⟨i,hi,hb⟩|hg)
   ·by_cases h0:i=0
    ·subst h0; rw[Õ] at hb; exact s (.inr hb)
    ·rw[Ð _ h0] at hi;rw[Ċ _ _ h0] at hb;exact s (.inl ⟨.inl ⟨i,hi,hb⟩,fun q=>h0 (k.inj i 0 b hi c hb q)⟩)
   ·exact s (.inl ⟨.inr hg,fun q=>k.ghne 0 b c q hg⟩)
 refine⟨_,_,H2,Y.trans A (by rw[mC]; exact du _),by rw[Û,mC],fun j hj=>?_,hk⟩;have hd:lkB (qC h x) j=.dead:=PW hj;rw[Ð _ (fun q=>by rw[q,f] at hd; cases hd)];exact hd
def aaS {E : Env ρ} {call : rT Nat -> Bool -> Nat -> rT AV -> rT Blk -> (AV -> rT Blk -> rF ρ) -> rF ρ} {L : Nat} (N : aek E.P L call) (hP : ∀ (f : Nat) (fn : Func), E.P.funcs[f]? = some fn -> (fn.name == "runtime.NumGoroutine") = false)
 (C:Ja E.P E.clone) (T:Γ E)
 {fid:Nat} {path:rT Nat} {z:Bool} {S:St} {a:Act} {nid:Nat} {o:Oper} {K:AV->St->rF ρ} {r:ρ} (hp:path.length=L) (H:Sim ν S a w) (hn:Ā E.clone o.op=true->nid<S.h.length/\lkB S.h nid=.dead)
 (e:jQ E call fid path z S nid o K=some r) {next:Act->World->Prop} {Q:Exit->Act->World->Prop}
 (hk:∀(ν':Nat->Value) (w':World) (u:Value) (v:AV) (k:St),VR ν' k.h w' v u->HR ν' k.h w'->Ev S.h.length ν S.h w ν' k.h w'->S.h.length<=k.h.length->(∀j,j<S.h.length->j≠nid\/Ā E.clone o.op=false->lkB S.h j=.dead->lkB k.h j=.dead)->k.t=S.t->K v k=some r->next (a.put o.dst u) w') :
 o.wpIn fen 0 E.P a w next Q:=by
 refine⟨fun _ _=>trivial,?_⟩
 have hnd:∀c,o.op≠.defer c:=by
  intro c R;rw[iO] at e
  try simp only[Jq] at e
  split at e<;>try (cases e; done)
  split at e
  ·rename_i i;rw[R] at i; cases i
  ·rw[R] at e;cases e
 rw[Oper.semAt_eq _ _ _ hnd]
 have plain:∀v k,opR E.P S nid (Qg E z fid o) o.op=some (v,k)->K v k=some r->o.uponIn fen 0 E.P a next Q ((execOp a.eval o).run E.P w):=by
  intro v k A h2;obtain⟨ν',w',u,O,h4,h5,h6,h7,h8⟩:=akO (clone:=E.clone) H hn A
  have:=hk ν' w' u v k h4 h5 h6 (fM h7.symm) (fun j _ G hd=>by
   rcases G with G|hal
   ·exact ahd A j G hd
   ·rw[op_nid (nid':=j+1) hal] at A
    exact ahd A j (by omega) hd) h8 h2
  rcases O with O|⟨O,rfl⟩
  ·rw[O]; exact this
  ·rw[O]; exact this
 rw[iO] at e
 try simp only[Jq] at e
 split at e<;>try (cases e; done)
 split at e
 ·rename_i f s tys i
  split at e<;>try (cases e; done)
  rotate_left
  ·rename_i p
   split at e<;>try (cases e; done)
   rename_i x d
   have I:a.eval f=.func (.yield Ghost.L) #[] #[]:=by
    have:=Ĉ H f;rw[p] at this;exact this
   obtain⟨fn,tmps,assign,body,W,hR⟩:=ago T H.heap (Ĉ H x) H.defers.bnd e
   have U:(execOp a.eval o).run E.P w=.ok (.round Ghost.L fn tmps assign body) w:=by
    rw[<-W];unfold execOp;rw[i,arr1 d];simp[resolve,I,Deferred.ofValue,invoke,Sem.run_bind,Result.andThen_ok,callFunc,run_program]
   rw[U,Oper.uponIn_round];refine⟨fun p=>(by cases p),RoundIn.mono (show RoundIn fen 0 E.P _ _ _ _ _ _ _ from hR) fun e' w' V=>?_⟩;obtain⟨b,rfl,ν',h',g1,g2,g3,g4,g5⟩:=V;exact hk ν' w' (.bool b) (.bool b) {t:=S.t,h:=h'} rfl g1 g2 (fM g3.symm) (fun j _ _ hd=>g4 j hd) rfl g5
  rename_i g first caps p;have Z:=Ĉ H f;rw[p] at Z;obtain⟨fs,cs,I,B,J⟩:=Z
  split at e
  ·rename_i l
   split at e<;>try (cases e; done)
   rename_i x d;rw[IY] at e;obtain⟨⟨v,k⟩,A,h2⟩:=ī e;simp only[dt] at l;obtain⟨l,Y⟩:=l
   have hfg:f=.func g:=by
    cases f<;>try (cases Y; done)
    simp only[ev] at p
    injection p with q1
    injection q1 with q1
    rw[q1]
   subst hfg;obtain⟨hn1,hn2⟩:=hn (by rw[i]; exact l);obtain⟨⟨fn,c,y,m⟩,R⟩:=C g l _ S nid _ v k A ν w _ H.heap (Ĉ H x) hn1 hn2
   have U:(execOp a.eval o).run E.P w=.ok (.enter g #[a.eval x]) w:=by
    unfold execOp;rw[i,arr1 d];simp only[resolve,Act.eval,Deferred.ofValue,pure_bind,invoke,callFunc,Sem.run_bind,run_program,Result.andThen_ok,y,hP g fn y,m];simp only[Bool.false_eq_true,if_false,Option.isNone_some];show Result.ok (Next.enter g _) w=_;congr 2;apply Array.ext'
    cases x<;>simp[Act.eval]
   rw[U,Oper.uponIn_enter];refine⟨fun p=>(by cases p),R.mono fun e' w' V=>?_⟩;obtain⟨ν',u',rfl,g1,g2,g3,g4,g6,g5⟩:=V;exact hk ν' w' u' v k g1 g2 g3 g4 (fun j _ G hd=>g6 j (G.resolve_right (by rw[i]; exact fun p=>by rw[show Ā E.clone (.call ⟨.value (.func g),s,tys⟩)=E.clone g from rfl,l] at p; cases p)) hd) g5 h2
  ·rename_i l
   have d:ÿ (VR ν S.h w) (first++(s.toList.map (ev S.t)++caps)) (fs.toList++(s.toList.map a.eval++cs.toList)) :=
    (B.mono fun _ _ q=>q.up.up).append ((ÿ.of_map fun x _=>Ĉ H x).append (J.mono fun _ _ q=>q.up.up))
   obtain⟨⟨fn,c,y,m⟩,R⟩:=N path z g _ _ _ r hp e ν w _ H.heap H.defers.bnd d
   have U:(execOp a.eval o).run E.P w=.ok (.enter g (fs.toList++(s.toList.map a.eval++cs.toList)).toArray) w:=by
    unfold execOp;rw[i];simp only[resolve,I,Deferred.ofValue,pure_bind,invoke,callFunc,Sem.run_bind,run_program,Result.andThen_ok,y,hP g fn y,m];simp only[Bool.false_eq_true,if_false,Option.isNone_some];show Result.ok (Next.enter g _) w=_;congr 2;apply Array.ext';simp
   rw[U,Oper.uponIn_enter];refine⟨fun p=>(by cases p),R.mono fun e' w' V=>?_⟩;obtain⟨ν',h',v,u,rfl,A,h2,O,h4,h6,h5⟩:=V;exact hk ν' w' u v {t:=S.t,h:=h'} A h2 O h4 (fun j G _ hd=>h6 j G hd) rfl h5
 ·rename_i op hne;rw[Vq] at e;obtain⟨⟨v,k⟩,A,h2⟩:=ī e;exact plain v k A h2
def Ei:∀(t:rT AV) (d:Nat),upd t d (lk t d)=t
 |[],_=>rfl
 |_::_,0=>rfl
 |x::t,d+1=>by simp[Xf,Xg,Xe,akh,aki,akg,Ei t d]
def ame (n nid:Nat) (h:rT Blk):Prop:=∀j,nid<=j->j<nid+n->j<h.length/\lkB h j=.dead
def mU {clone:Nat->Bool} {o:Oper} {os:rT Oper}:ο clone (o::os)=bif Ā clone o.op then ο clone os+1 else ο clone os:=rfl
def Un {all:rT Oper} {o:Oper} {j:Nat} {b:Bool}:∀{l:rT Oper},sj all l=true->o∈l->o.guard=some (j,b)->∃p d,all[j]?=some p/\p.dst=some d
 |[],_,c,_=>by cases c
 |x::l,f,c,i=>by
  simp only[sj,dt] at f;rcases dE.1 c with rfl|c
  ·have e:=f.1;rw[i] at e;simp only at e
   split at e
   ·rename_i p k;obtain⟨d,hd⟩:=fZ.1 e;exact⟨p,d,k,hd⟩
   ·cases e
  ·exact Un f.2 c i
def ael {c:Array Oper} {tmps:Array Value} {j d:Nat} {p:Oper} (i:c.toList[j]?=some p) (hd:p.dst=some d) :
 (∀b,tmps.getD d undef=.bool b->yielded c tmps j=some b)/\(tmps.getD d undef=undef->yielded c tmps j=none):=by
 have e:c[j]?=some p:=by simpa using i
 constructor
 ·intro b hb;unfold yielded;rw[e];simp only[Option.bind_some,hd]
  cases f:tmps[d]? with
  |none=>simp[dT,f,undef] at hb
  |some v=>simp[dT,f] at hb; subst hb; rfl
 ·intro hb;unfold yielded;rw[e];simp only[Option.bind_some,hd]
  cases f:tmps[d]? with
  |none=>rfl
  |some v=>simp[dT,f] at hb; subst hb; rfl
def pG (E:Env ρ) (call:rT Nat->Bool->Nat->rT AV->rT Blk->(AV->rT Blk->rF ρ)->rF ρ) (fid:Nat) (path:rT Nat) (c:Bool) (all:rT Oper) (i nid:Nat) (o:Oper) (S:St) (K:St->rF ρ):rF ρ :=
 match o.guard with
 |none=>jQ E call fid (path++[i]) c S nid o fun v S=>K {t:=ò S.t o.dst v,h:=S.h}
 |some (j,want)=>match lk S.t (oX all j) with
  |.bool b=>match b==want with
   |true=>jQ E call fid (path++[i]) c S nid o fun v S=>K {t:=ò S.t o.dst v,h:=S.h}
   |false=>K {t:=ò S.t o.dst .und,h:=S.h}
  |.und=>K {t:=ò S.t o.dst .und,h:=S.h}
  |_=>none
def aha {E:Env ρ} {call:rT Nat->Bool->Nat->rT AV->rT Blk->(AV->rT Blk->rF ρ)->rF ρ} {fid:Nat} {path:rT Nat} {c:Bool} {all:rT Oper} {o:Oper} {os:rT Oper} {i nid:Nat} {S:St} {K:St->rF ρ} :
 aeJ E call fid path c all (o::os) i nid S K=pG E call fid path c all i nid o S fun m=>aeJ E call fid path c all os (i+1) (bif Ā E.clone o.op then nid+1 else nid) m K:=by
 simp only[aeJ,pG]
 have f:∀d b,lk S.t d=.bool b->({t:=upd S.t d (.bool b),h:=S.h}:St)=S:=fun d b hb=>by rw[<-hb,Ei]
 have e:∀d b,lk S.t d=.bool b->upd S.t d (.bool b)=S.t:=fun d b hb=>by rw[<-hb,Ei]
 cases o.guard with
 |none=>rfl
 |some g =>
  obtain⟨j,k⟩:=g;simp only
  cases hb:lk S.t (oX all j)<;>try rfl
  rename_i b;have l:=f _ b hb;have h2:=e _ b hb
  cases b<;>cases k<;>simp only[l,h2]<;>rfl
def Mw {E : Env ρ} {call : rT Nat -> Bool -> Nat -> rT AV -> rT Blk -> (AV -> rT Blk -> rF ρ) -> rF ρ} {L : Nat} (z : aek E.P L call) (Y : ∀ (f : Nat) (fn : Func), E.P.funcs[f]? = some fn -> (fn.name == "runtime.NumGoroutine") = false)
 (m:Ja E.P E.clone) (A:Γ E) {fid:Nat} {path:rT Nat} {q:Bool} {c:Array Oper} (W:sj c.toList c.toList=true)
 {S:St} {a:Act} {nid i:Nat} {o:Oper} {K:St->rF ρ} {r:ρ} (I:path.length+1=L) (T:c[i]?=some o) (H:Sim ν S a w) (V:Ā E.clone o.op=true->nid<S.h.length/\lkB S.h nid=.dead)
 (e:pG E call fid path q c.toList i nid o S K=some r) {next:Act->World->Prop} {Q:Exit->Act->World->Prop}
 (U:∀(ν':Nat->Value) (w':World) (u:Value) (v:AV) (s:St),VR ν' s.h w' v u->HR ν' s.h w'->Ev S.h.length ν S.h w ν' s.h w'->S.h.length<=s.h.length->(∀j,j<S.h.length->j≠nid\/Ā E.clone o.op=false->lkB S.h j=.dead->lkB s.h j=.dead)->s.t=S.t ->
  K {t:=ò s.t o.dst v,h:=s.h}=some r->next (a.put o.dst u) w') :
 wpOpIn fen 0 E.P c Q i next a w:=by
 have run:jQ E call fid (path++[i]) q S nid o (fun v S=>K {t:=ò S.t o.dst v,h:=S.h})=some r ->
  o.wpIn fen 0 E.P a w next Q:=fun O=>aaS z Y m A (by simpa using I) H V O U
 -- it is left out
 have skip:K {t:=ò S.t o.dst .und,h:=S.h}=some r->next (a.put o.dst undef) w :=
  fun O=>U ν w undef .und S rfl H.heap (Ev.refl _ _ _ _) (du _) (fun _ _ _ hd=>hd) rfl O
 have C:o∈c.toList:=by
  have:c.toList[i]?=some o:=by simpa using T
  exact dJ this
 unfold wpOpIn;rw[T];simp only[pG] at e
 split at e
 ·rename_i k
  have x:Region.wanted o (yielded c a.tmps)=true:=by simp[Region.wanted,k]
  simp only[x,if_true];exact run e
 ·rename_i j R k;obtain⟨p,d,I,hd⟩:=Un W C k;obtain⟨N,J⟩:=ael (tmps:=a.tmps) I hd
  have y:oX c.toList j=d:=by simp[oX,I,hd]
  rw[y] at e;have G:=H.tmps d
  split at e
  ·rename_i b hb;rw[hb] at G;have B:=N b G
   split at e
   ·rename_i l
    have x:Region.wanted o (yielded c a.tmps)=true:=by
     simp only[beq_iff_eq] at l;simp[Region.wanted,k,B,l]
    simp only[x,if_true];exact run e
   ·rename_i l
    have x:Region.wanted o (yielded c a.tmps)=false:=by
     simp only[beq_eq_false_iff_ne] at l;simpa[Region.wanted,k,B] using l
    simp only[x,dN,if_false];exact⟨fun _ _=>trivial,skip e⟩
  ·rename_i hb;rw[hb] at G
   have x:Region.wanted o (yielded c a.tmps)=false:=by simp[Region.wanted,k,J G]
   simp only[x,dN,if_false];exact⟨fun _ _=>trivial,skip e⟩
  ·cases e
def ag9 {E : Env ρ} {call : rT Nat -> Bool -> Nat -> rT AV -> rT Blk -> (AV -> rT Blk -> rF ρ) -> rF ρ} {L : Nat} (p : aek E.P L call) (N : ∀ (f : Nat) (fn : Func), E.P.funcs[f]? = some fn -> (fn.name == "runtime.NumGoroutine") = false)
 (k:Ja E.P E.clone) (q:Γ E) {fid:Nat} {path:rT Nat} {l:Bool} {c:Array Oper} (J:sj c.toList c.toList=true)
 {S:St} {a:Act} {nid i:Nat} {o:Oper} {os:rT Oper} {K:St->rF ρ} {r:ρ} (A:path.length+1=L) (B:c[i]?=some o) (H:Sim ν S a w) (y:ame (ο E.clone (o::os)) nid S.h)
 (e:aeJ E call fid path l c.toList (o::os) i nid S K=some r) {next:Act->World->Prop} {Q:Exit->Act->World->Prop}
 (G:∀(ν':Nat->Value) (w':World) (u:Value) (v:AV) (d:St),VR ν' d.h w' v u->HR ν' d.h w'->Ev S.h.length ν S.h w ν' d.h w'->S.h.length<=d.h.length->ame (ο E.clone os) (bif Ā E.clone o.op then nid+1 else nid) d.h->(∀j,j<S.h.length->j<nid->lkB S.h j=.dead->lkB d.h j=.dead)->d.t=S.t ->
  aeJ E call fid path l c.toList os (i+1) (bif Ā E.clone o.op then nid+1 else nid) {t:=ò d.t o.dst v,h:=d.h} K=some r->next (a.put o.dst u) w') :
 wpOpIn fen 0 E.P c Q i next a w:=by
 have x:Ā E.clone o.op=true->nid<S.h.length/\lkB S.h nid=.dead:=fun b=>y nid (du _) (by rw[mU,b]; simp)
 have m:ame (ο E.clone os) (bif Ā E.clone o.op then nid+1 else nid) S.h:=fun j s h2=>by
  cases b:Ā E.clone o.op with
  |true=>rw[b] at s h2; exact y j (by simp at s; omega) (by rw[mU,b]; simp at h2 ⊢; omega)
  |false=>rw[b] at s h2; exact y j (by simpa using s) (by rw[mU,b]; simpa using h2)
 rw[aha] at e;refine Mw p N k q J A B H x e fun ν' w' u v d g1 Z Y W z V U=>G ν' w' u v d g1 Z Y W (fun j h2 T=>?_) (fun j I C hd=>z j I (.inl (by omega)) hd) V U;obtain⟨R,O⟩:=m j h2 T;refine⟨by omega,z j R ?_ O⟩
 cases b:Ā E.clone o.op with
 |true=>left; rw[b] at h2; simp at h2; omega
 |false=>exact .inr rfl
end
end Go.Am
end

noncomputable section
namespace Go.Am
variable [Globs] [Ghost]
section
variable {ρ:Type} {ν ν':Nat->Value} {h h':rT Blk} {w w':World} {P:Program}
def Dd (m:Nat) (h h':rT Blk):Prop:=∀j,j<m->lkB h j=.dead->lkB h' j=.dead
def Dd.refl (m:Nat) (h:rT Blk):Dd m h h:=fun _ _ hd=>hd
def Dd.trans {m c:Nat} {h h' b:rT Blk} (f:Dd m h h') (h2:Dd c h' b) (e:m<=c):Dd m h b:=fun j d hd=>h2 j (dD d e) (f j d hd)
def aax (m:Nat) (ν:Nat->Value) (h:rT Blk) (w:World) (K:Exit->St->rF ρ) (r:ρ) (e:Exit) (c:Act) (w':World):Prop :=
 ∃ν' b,Sim ν' b c w'/\Ev m ν h w ν' b.h w'/\m<=b.h.length/\Dd m h b.h/\K e b=some r
def aax.trans {m i:Nat} {K:Exit->St->rF ρ} {r:ρ} {e:Exit} {j:Act} {b:Nat->Value} {c:rT Blk} {d:World} (ev:Ev m ν h w b c d) (hd:Dd m h c) (f:m<=i) (ha:aax i b c d K r e j w'):aax m ν h w K r e j w':=by
 obtain⟨ν',q,p,h2,o,l,k⟩:=ha;exact⟨ν',q,p,ev.trans h2 f,dG f o,hd.trans l f,k⟩
def akb (E:Env ρ) (call:rT Nat->Bool->Nat->rT AV->rT Blk->(AV->rT Blk->rF ρ)->rF ρ):Prop :=
 (∀path c g b h K,call path c g b h K=none) \/
 ((∀ f p, E.pure f = some p -> ∀ path c b h K, call path c f b h K = Vd (c && !E.fz f) p h b K) /\
  (∀f,E.pure f=none->E.sort f=true->∀path c b h K,call path c f b h K=match b with|[x]=>U8 h x K|_=>none) /\
  (∀f,E.pure f=none->E.sort f=false->E.compact f=true->∀path c b h K,call path c f b h K=match b with|[x]=>o9 h x K|_=>none))
def NormOk (m:Nat) (N:St->rF St):Prop:=∀(S b:St) (ν:Nat->Value) (a:Act) (w:World),N S=some b->Sim ν S a w->m<=S.h.length->∃ν',Sim ν' b a w/\Ev m ν S.h w ν' b.h w/\m<=b.h.length/\Dd m S.h b.h
def aei (E:Env ρ):Prop:=∀path fid rid m J,E.joins path fid rid m=some J->∃N,NormOk m N/\∀body rest,J body rest=body (fun S=>match N S with|some b=>rest b|none=>none)
def Ē {E:Env ρ} (h:E.joins=fun _ _ _ _=>none):aei E:=by
 intro path fid rid m J e;rw[h] at e;cases e
structure jM (E:Env ρ) (L:Nat) (call:rT Nat->Bool->Nat->rT AV->rT Blk->(AV->rT Blk->rF ρ)->rF ρ):Prop where
 pureEq:akb E call
 call:aek E.P L call
 plain : ∀ (f : Nat) (fn : Func), E.P.funcs[f]? = some fn -> (fn.name == "runtime.NumGoroutine") = false
 clone:Ja E.P E.clone
 joins:aei E
 yld:Γ E
def Yh {E:Env ρ} {call:rT Nat->Bool->Nat->rT AV->rT Blk->(AV->rT Blk->rF ρ)->rF ρ} {L:Nat} (l:jM E L call) {fid:Nat} {path:rT Nat} {p:Bool} {b:Array Oper} (B:path.length+1=L) (G:sj b.toList b.toList=true)
 {K:St->rF ρ} {r:ρ} {Q:Exit->Act->World->Prop} {m:Nat}:∀(os:rT Oper) (i nid:Nat) (S:St) (a:Act) (ν:Nat->Value) (w:World),(∀k,os[k]?=b[i+k]?)->Sim ν S a w->ame (ο E.clone os) nid S.h->m<=nid->m<=S.h.length ->
  aeJ E call fid path p b.toList os i nid S K=some r ->
  (∀ν' c J w',Sim ν' c J w'->Ev m ν S.h w ν' c.h w'->m<=c.h.length->Dd m S.h c.h->K c=some r->Q .normal J w') ->
  wpOpsIn fen 0 E.P b Q (List.range' i os.length) a w
 |[],i,nid,S,a,ν,w,_,H,_,_,x,e,y=>y ν S a w H (Ev.refl _ _ _ _) x (Dd.refl _ _) e
 |o::os,i,nid,S,a,ν,w,C,H,N,O,x,e,y=>by
  rw[dz,List.range'_succ,wpOpsIn_cons]
  have s:b[i]?=some o:=by have:=C 0; simpa using this.symm
  refine ag9 l.call l.plain l.clone l.yld G B s H N e fun ν' w' u v c Y h2 I h4 W T V U=>?_;have f:=H.put I h2 o.dst Y
  refine Yh l B G os (i+1) _ {t:=ò c.t o.dst v,h:=c.h} _ ν' w' (fun k=>by have:=C (k+1); rw[show i+1+k=i+(k+1) by omega]; simpa using this) (by rw[V]; exact f) W (by cases Ā E.clone o.op<;>simp<;>omega) (by simp; omega) U
   fun d A z q g1 g2 g3 g4 Z=>y d A z q g1 ((I.mono x).trans g2 (du _)) g3 (fun j R hd=>g4 j R (T j (by omega) (by omega) hd)) Z
def aaW {E:Env ρ} {call:rT Nat->Bool->Nat->rT AV->rT Blk->(AV->rT Blk->rF ρ)->rF ρ} {L:Nat} (p:jM E L call) {fid rid:Nat} {path:rT Nat} {c:Array Oper} {S:St} {a:Act} {K:Exit->St->rF ρ} {r:ρ} {m:Nat} (i:path.length+1=L)
 (e:MH E call fid path false c.toList S (K .normal)=some r) (H:Sim ν S a w) (l:m<=S.h.length):(Code.region rid c false).wpIn fen 0 E.P (aax m ν S.h w K r) a w:=by
 unfold MH at e
 split at e<;>try (cases e; done)
 rename_i f;simp only[Bool.false_and,Bool.false_or,ft] at f;apply wpIn_region;have b:=fun id=>PH S.h (ο E.clone c.toList) id;have A:Sim ν {t:=S.t,h:=S.h++List.replicate (ο E.clone c.toList) .dead} a w:=H.same b rfl rfl rfl rfl;have d:Ev m ν S.h w ν (S.h++List.replicate (ο E.clone c.toList) .dead) w:=Ev.same b rfl rfl rfl rfl m
 have:=Yh (m:=m) (Q:=aax m ν S.h w K r) p i f c.toList 0 S.h.length _ a ν w (fun k=>by simp) A (fun j q h2=>⟨by simp; omega,by simp only[b]; exact GG _ _ q⟩) l (by simp; omega) e
  (fun ν' z B w' y x v u s=>⟨ν',z,y,d.trans x (du _),v,fun j o hd=>u j o (by simp only[b]; exact hd),s⟩)
 rw[List.range_eq_range'];simpa using this
def qB (E:Env ρ) (L:Nat) (call:rT Nat->Bool->Nat->rT AV->rT Blk->(AV->rT Blk->rF ρ)->rF ρ):Prop :=
 ∀(fid rid:Nat) (path:rT Nat) (b:Array Oper) (S:St) (a:Act) (K:Exit->St->rF ρ) (r:ρ) (m:Nat) (ν:Nat->Value) (w:World),path.length+1=L ->
  MH E call fid path true b.toList S (K .normal)=some r->Sim ν S a w->m<=S.h.length->(Code.region rid b true).wpIn fen 0 E.P (aax m ν S.h w K r) a w
def drawn:Code->Bool
 |.region _ _ d=>d
 |.seq a b=>drawn a||drawn b
 |.cond _ a b=>drawn a||drawn b
 |.block _ b=>drawn b
 |.scope b=>drawn b
 |_=>false
def noGoto (Q:Exit->Act->World->Prop):Exit->Act->World->Prop
 |.goto _,_,_=>False
 |e,a,w=>Q e a w
section
variable {F:Fence} {n:Nat} {P:Program} {Q:Exit->Act->World->Prop} {a:Act} {w:World}
def mh {b:Frame} {k:rT Item} {cs:rT Frame} {c:Code}:step P (lone (b.atR a (.code (.scope c)::k)) cs w)=.next (lone (b.atR a (.code c::.inScope c::k)) cs w) :=
 step_lone_go (by simp[stepG,stepG.exec,Frame.atR])
def U7 {b:Frame} {k:rT Item} {cs:rT Frame} {c:Code}:step P (lone (b.atR a (.inScope c::k)) cs w)=.next (lone (b.atR a k) cs w) :=
 step_lone_go (by simp[stepG,stepG.exec,Frame.atR])
def aem {c:Code} (h:c.wpIn F n P (noGoto Q) a w):(Code.scope c).wpIn F n P Q a w:=by
 intro b k cs m hb p;have h0:(lone (b.atR a (.code (.scope c)::k)) cs w).fenced P F:=fenced_calm hb p rfl;obtain⟨e,i,f,j,d⟩:=h b (.inScope c::k) cs m hb p
 cases e with
 |normal=>exact⟨.normal,i,f,j,.head h0 mh (StepsIn.trans d (.one (fenced_calm hb p rfl) U7))⟩
 |exit id =>
  have r:exitTo id (.inScope c::k)=exitTo id k:=by simp[exitTo]
  exact⟨.exit id,i,f,j,fun s q=>.head h0 mh (d.1 s (by rw[r]; exact q)),
   fun o q=>let ⟨k₁,u,h2⟩:=d.2 o (by rw[r]; exact q); ⟨k₁,u,.head h0 mh h2⟩⟩
 |goto l=>exact j.elim
 |ret=>exact⟨_,i,f,j,.of_steps (.one h0 mh) d⟩
 |panic ch=>exact⟨_,i,f,j,.of_steps (.one h0 mh) d⟩
 |outgrown=>exact⟨_,i,f,j,.of_steps (.one h0 mh) d⟩
end
def kT (E:Env ρ) (path:rT Nat) (fid bid:Nat):LI->Prop
 |.lp b=>∀(m:Nat) (S:St) (K:Exit->St->rF ρ) (r:ρ) (ν:Nat->Value) (a:Act) (w:World),E.loops path fid bid m S K=some r->Sim ν S a w->m<=S.h.length->(Code.loop b).wpIn fen 0 E.P (aax m ν S.h w K r) a w
 |.rf g ps x y=>∀(m:Nat) (S:St) (K:Exit->St->rF ρ) (r:ρ) (ν:Nat->Value) (a:Act) (w:World),E.ranges path fid bid m (ev S.t g) S K=some r->Sim ν S a w->m<=S.h.length->(Code.rangeFunc g ps x y).wpIn fen 0 E.P (aax m ν S.h w K r) a w
def uF {E:Env ρ} {call:rT Nat->Bool->Nat->rT AV->rT Blk->(AV->rT Blk->rF ρ)->rF ρ} {L:Nat} (V:jM E L call) {fid:Nat} {path:rT Nat} (U:path.length+2=L) {m:Nat} {r:ρ}:∀(c:Code) (bid:Nat) (S:St) (K:Exit->St->rF ρ) (ν:Nat->Value) (a:Act) (w:World),
 (drawn c=true->qB E L call)->(∀x∈Ø bid c,kT E path fid x.1 x.2)->goC E call fid path m bid c S K=some r->Sim ν S a w->m<=S.h.length->c.wpIn fen 0 E.P (aax m ν S.h w K r) a w:=by
 intro c
 induction c with
 |skip=>exact fun bid S K ν a w _ _ e H p=>wpIn_skip ⟨ν,S,H,Ev.refl _ _ _ _,p,Dd.refl _ _,e⟩
 |label l=>exact fun bid S K ν a w _ _ e H p=>wpIn_label ⟨ν,S,H,Ev.refl _ _ _ _,p,Dd.refl _ _,e⟩
 |exit id=>exact fun bid S K ν a w _ _ e H p=>wpIn_exit ⟨ν,S,H,Ev.refl _ _ _ _,p,Dd.refl _ _,e⟩
 |ret=>exact fun bid S K ν a w _ _ e H p=>wpIn_ret ⟨ν,S,H,Ev.refl _ _ _ _,p,Dd.refl _ _,e⟩
 |region rid ops draw =>
  intro bid S K ν a w s _ e H p;simp only[goC,aiD] at e
  cases draw with
  |false=>exact aaW V (by simpa using U) e H p
  |true=>exact s rfl fid rid _ ops S a K r m ν w (by simpa using U) e H p
 |seq x y ihx ihy =>
  intro bid S K ν a w s q e H p;simp only[goC] at e
  cases v:E.joins path fid (PQ y) m with
  |none =>
   rw[v] at e;simp only at e;refine wpIn_seq (wpIn_mono (ihx bid S _ ν a w (fun h=>s (by simp[drawn,h])) (fun z u=>q z (eZ _ u)) e H p) fun A B w' ha=>?_);obtain⟨ν',o,k,h2,i,f,d⟩:=ha
   cases A with
   |normal =>
    exact wpIn_mono (ihy bid o K ν' B w' (fun h=>s (by simp[drawn,h])) (fun z u=>q z (d8 _ u)) d k i) fun R T O ha=>ha.trans h2 f (du _)
   |exit id=>exact⟨ν',o,k,h2,i,f,d⟩
   |goto l=>exact⟨ν',o,k,h2,i,f,d⟩
   |ret=>exact⟨ν',o,k,h2,i,f,d⟩
   |panic ch=>exact⟨ν',o,k,h2,i,f,d⟩
   |outgrown=>exact⟨ν',o,k,h2,i,f,d⟩
  |some J =>
   rw[v] at e;simp only at e;obtain⟨N,Y,Z⟩:=V.joins _ _ _ _ _ v;rw[Z] at e;refine wpIn_seq (wpIn_mono (ihx bid S _ ν a w (fun h=>s (by simp[drawn,h])) (fun z u=>q z (eZ _ u)) e H p) fun A B w' ha=>?_);obtain⟨ν',o,k,h2,i,f,d⟩:=ha
   cases A with
   |normal =>
    simp only at d
    split at d<;>try (cases d; done)
    rename_i I W;obtain⟨C,g1,g2,g3,g4⟩:=Y o I ν' B w' W k i;exact wpIn_mono (ihy bid I K C B w' (fun h=>s (by simp[drawn,h])) (fun z u=>q z (d8 _ u)) d g1 g3) fun R T O ha=>ha.trans (h2.trans g2 (du _)) (f.trans g4 (du _)) (du _)
   |exit id=>exact⟨ν',o,k,h2,i,f,d⟩
   |goto l=>exact⟨ν',o,k,h2,i,f,d⟩
   |ret=>exact⟨ν',o,k,h2,i,f,d⟩
   |panic ch=>exact⟨ν',o,k,h2,i,f,d⟩
   |outgrown=>exact⟨ν',o,k,h2,i,f,d⟩
 |cond c x y ihx ihy =>
  intro bid S K ν a w s q e H p;simp only[goC] at e
  split at e<;>try (cases e; done)
  rename_i b hb;have G:=Ĉ H c;rw[hb] at G;have G:a.eval c=.bool b:=G
  split at e
  ·exact wpIn_cond_true G (ihx bid S K ν a w (fun h=>s (by simp[drawn,h])) (fun z u=>q z (eZ _ u)) e H p)
  ·exact wpIn_cond_false G (ihy bid S K ν a w (fun h=>s (by simp[drawn,h])) (fun z u=>q z (d8 _ u)) e H p)
 |block id b ih =>
  intro bid S K ν a w s q e H p;simp only[goC] at e;refine wpIn_block (wpIn_mono (ih id S _ ν a w (fun h=>s (by simpa[drawn] using h)) q e H p) fun A B w' ha=>?_);obtain⟨ν',o,k,h2,i,f,d⟩:=ha
  cases A with
  |exit j =>
   simp only[Exit.inBlock];simp only at d
   split at d
   ·rename_i v;rw[if_pos (eq_of_beq v)];exact⟨ν',o,k,h2,i,f,d⟩
   ·rename_i v
    have:¬j=id:=by simpa using v
    rw[if_neg this];exact⟨ν',o,k,h2,i,f,d⟩
  |normal=>exact⟨ν',o,k,h2,i,f,d⟩
  |goto l=>exact⟨ν',o,k,h2,i,f,d⟩
  |ret=>exact⟨ν',o,k,h2,i,f,d⟩
  |panic ch=>exact⟨ν',o,k,h2,i,f,d⟩
  |outgrown=>exact⟨ν',o,k,h2,i,f,d⟩
 |loop b ih =>
  intro bid S K ν a w s q e H p;simp only[goC] at e;exact q (bid,.lp b) (by simp[Ø]) m S K r ν a w e H p
 |rangeFunc g ps x y ihx ihy =>
  intro bid S K ν a w s q e H p;simp only[goC] at e;exact q (bid,.rf g ps x y) (by simp[Ø]) m S K r ν a w e H p
 |scope b ih =>
  intro bid S K ν a w s q e H p;simp only[goC] at e;refine aem (wpIn_mono (ih bid S _ ν a w (fun h=>s (by simpa[drawn] using h)) q e H p) fun A B w' ha=>?_);obtain⟨ν',o,k,h2,i,f,d⟩:=ha
  cases A with
  |goto l=>cases d
  |normal=>exact⟨ν',o,k,h2,i,f,d⟩
  |exit id=>exact⟨ν',o,k,h2,i,f,d⟩
  |ret=>exact⟨ν',o,k,h2,i,f,d⟩
  |panic ch=>exact⟨ν',o,k,h2,i,f,d⟩
  |outgrown=>exact⟨ν',o,k,h2,i,f,d⟩
 |_=>intro bid S K ν a w s q e H p; cases e
def qr {E:Env ρ} {call:rT Nat->Bool->Nat->rT AV->rT Blk->(AV->rT Blk->rF ρ)->rF ρ} {L:Nat} (i:jM E L call) (j:qB E L call) {fid:Nat} {path:rT Nat} (b:path.length+2=L) {m:Nat} {r:ρ} (c:Code) (bid:Nat) (S:St) (K:Exit->St->rF ρ) (ν:Nat->Value) (a:Act) (w:World)
 (f:∀x∈Ø bid c,kT E path fid x.1 x.2) (e:goC E call fid path m bid c S K=some r) (H:Sim ν S a w) (d:m<=S.h.length):c.wpIn fen 0 E.P (aax m ν S.h w K r) a w :=
 uF i b c bid S K ν a w (fun _=>j) f e H d
end
end Go.Am
end

noncomputable section
namespace Go.Am
variable [Globs] [Ghost]
section
variable {ρ:Type} {ν ν':Nat->Value} {h h':rT Blk} {w w':World} {P:Program}
def aka:Prop:=∀(T:Tpl) (pin:Nat) (cs vs:rT Ty) (S:St) (p:Val (tyL cs)) (v:Val (tyL vs)) (ν:Nat->Value) (a:Act) (w:World),tq T pin cs vs S=some (p,v)->Sim ν S a w ->
 ∃ν',Sim ν' (à T cs vs p v) a w/\Ev pin ν S.h w ν' (à T cs vs p v).h w/\pin<=(à T cs vs p v).h.length/\Dd pin S.h (à T cs vs p v).h
def Ut:∀(l:rT (Exit×Tpl×rT Ty)) (e:Exit) (i j:Nat),alr l e i=some j->∃x,i<=j/\l[j-i]?=some x/\LQ x.1 e=true
 |[],_,_,_,h=>by cases h
 |x::l,e,i,j,h=>by
  unfold alr at h
  split at h
  ·rename_i b;cases h;exact⟨x,du _,by simp,b⟩
  ·obtain⟨y,d,h2,c⟩:=Ut l e (i+1) j h;refine⟨y,by omega,?_,c⟩;rw[show j-i=(j-(i+1))+1 by omega];simpa using h2
def aaR {a b:Exit} (h:LQ a b=true):a=b:=by
 unfold LQ at h
 split at h
 ·rw[eq_of_beq h]
 ·rfl
 ·cases h
def adv [LC] (hM:aka) {E:Env ρ} {call:rT Nat->Bool->Nat->rT AV->rT Blk->(AV->rT Blk->rF ρ)->rF ρ} {N:Nat} (hE:jM E N call) (hD:qB E N call) {fid bid:Nat} {path:rT Nat} (O:path.length+2=N) {b:Code}
 (hin:∀x∈Ø bid b,kT E path fid x.1 x.2) (L:Å)
 (bF:Val (tyL L.cs)->Val (tyL L.vs)->(Val (tyL L.vs)->rF ρ)->((i:Nat)->Val (tyL (L.zs i))->rF ρ)->rF ρ)
 (law:∀p v G kx,goC E call fid path L.pin bid b (à L.head L.cs L.vs p v) (Em L G kx)=bF p v (G p) (fun i=>kx i p)) {m:Nat} {S:St} {K:Exit->St->rF ρ} {r:ρ} {ν:Nat->Value} {a:Act} {w:World} (e:aaT L bF m S K=some r) (H:Sim ν S a w) (hm:m<=S.h.length):(Code.loop b).wpIn fen 0 E.P (aax m ν S.h w K r) a w:=by
 unfold aaT at e
 split at e<;>try (cases e; done)
 rename_i c;have c:m<=L.pin:=eE c
 split at e<;>try (cases e; done)
 rename_i p v B;obtain⟨n,hn⟩:=afi e;obtain⟨d,H1,V,T,Y⟩:=hM _ _ _ _ _ _ _ ν a w B H;apply wpIn_loop_rounds n
 have key:∀(n:Nat) (p:Val (tyL L.cs)) (v:Val (tyL L.vs)) (d:Nat->Value) (q:Act) (f:World),iter (fun v G=>bF p v G fun i z=>K (L.xk i) (à (L.tpl i) L.cs (L.zs i) p z)) n v=some r ->
  Sim d (à L.head L.cs L.vs p v) q f->Ev m ν S.h w d (à L.head L.cs L.vs p v).h f->L.pin<=(à L.head L.cs L.vs p v).h.length->Dd m S.h (à L.head L.cs L.vs p v).h ->
  Code.roundsIn fen 0 E.P b (aax m ν S.h w K r) n q f:=by
  intro n
  induction n with
  |zero=>intro p v d q f e; cases e
  |succ n ih =>
   intro p v d q f e H1 V T Y;rw[roundsIn_succ];have hl:=law p v (fun p v=>iter (fun v G=>bF p v G fun i z=>K (L.xk i) (à (L.tpl i) L.cs (L.zs i) p z)) n v) (fun i p z=>K (L.xk i) (à (L.tpl i) L.cs (L.zs i) p z))
   have e':goC E call fid path L.pin bid b (à L.head L.cs L.vs p v) (Em L (fun p v=>iter (fun v G=>bF p v G fun i z=>K (L.xk i) (à (L.tpl i) L.cs (L.zs i) p z)) n v) (fun i p z=>K (L.xk i) (à (L.tpl i) L.cs (L.zs i) p z)))=some r:=by
    rw[hl]; exact e
   refine wpIn_mono (qr hE hD O b bid _ _ d q f hin e' H1 T) fun x A o ha=>?_;obtain⟨u,C,H2,ev2,hp2,dd2,k⟩:=ha;have I:Ev m ν S.h w u C.h o:=V.trans ev2 c;have J:Dd m S.h C.h:=Y.trans dd2 c
   have out:∀x,x≠.normal->Em L (fun p v=>iter (fun v G=>bF p v G fun i z=>K (L.xk i) (à (L.tpl i) L.cs (L.zs i) p z)) n v) (fun i p z=>K (L.xk i) (à (L.tpl i) L.cs (L.zs i) p z)) x C=some r->aax m ν S.h w K r x A o:=by
    intro x hx k;unfold Em at k
    split at k
    ·exact absurd rfl hx
    ·split at k<;>try (cases k; done)
     rename_i i hi
     split at k<;>try (cases k; done)
     rename_i Z z B;obtain⟨y,_,h1,h2⟩:=Ut _ _ _ _ hi
     have hxk:L.xk i=x:=by
      have:L.exits[i]?=some y:=by simpa using h1
      unfold Å.xk;rw[this];exact aaR h2
     obtain⟨s,H3,U,R,W⟩:=hM _ _ _ _ _ _ _ u A o B H2;have k:K (L.xk i) (à (L.tpl i) L.cs (L.zs i) Z z)=some r:=k;rw[hxk] at k;exact⟨s,_,H3,I.trans U c,dG c R,J.trans W c,k⟩
   cases x with
   |normal =>
    simp only[Em] at k
    split at k<;>try (cases k; done)
    rename_i Z v' B;obtain⟨s,H3,U,R,W⟩:=hM _ _ _ _ _ _ _ u A o B H2;exact ih Z v' s A o k H3 (I.trans U c) R (J.trans W c)
   |exit id=>exact out _ (by simp) k
   |ret=>exact out _ (by simp) k
   |goto l=>exact out _ (by simp) k
   |panic ch=>exact out _ (by simp) k
   |outgrown=>exact out _ (by simp) k
 exact key n p v d a w hn H1 (V.mono c) T (fun j hj hd=>Y j (by omega) hd)
end
end Go.Am
end

noncomputable section
namespace Go.Am
variable [Globs] [Ghost]
section
variable {ν:Nat->Value} {h h':rT Blk} {w:World}
def Z7 {t:Ty} {d:DV} {x:Val t} (e:Qu t d=some x):d=⟨t,x⟩:=by
 unfold Qu at e
 split at e<;>try (cases e; done)
 rename_i b _;obtain⟨ty,val⟩:=d;simp only at b;subst b;cases e;rfl
def aep (u:Ty) (l:rT Ty) (t:Ty) (d:DV) (b:rT DV):aeq (u::l) t (d::b)=(match Qu t d with
 |some x=>match aeq l u b with
  |some y=>some ((x,y):Val t×Val (tys u l))
  |none=>none
 |none=>none):=rfl
def ahe (t:Ty) (x:Val t):aeM t [] x=[⟨t,x⟩]:=rfl
def aeL (t u:Ty) (l:rT Ty) (x:Val t) (y:Val (tys u l)):aeM t (u::l) ((x,y):Val t×Val (tys u l))=⟨t,x⟩::aeM u l y:=rfl
def akt (l:rT Ty):∀(t:Ty) (b:rT DV) (x:Val (tys t l)),aeq l t b=some x->aeM t l x=b:=by
 induction l with
 |nil =>
  intro t b x e
  match b,e with
  |[],e=>exact absurd (show(none:rF (Val t))=some x from e) (fun h=>by cases h)
  |[d],e =>
   have e:Qu t d=some x:=e;rw[Z7 e]; exact ahe t x
  |_::_::_,e=>exact absurd (show(none:rF (Val t))=some x from e) (fun h=>by cases h)
 |cons u l i =>
  intro t b x e
  match b,e with
  |[],e=>exact absurd (show(none:rF (Val t×Val (tys u l)))=some x from e) (fun h=>by cases h)
  |d::b,e =>
   rw[aep] at e
   cases c:Qu t d with
   |none=>rw[c] at e; exact absurd (show(none:rF (Val t×Val (tys u l)))=some x from e) (fun h=>by cases h)
   |some y =>
    cases f:aeq l u b with
    |none=>rw[c,f] at e; exact absurd (show(none:rF (Val t×Val (tys u l)))=some x from e) (fun h=>by cases h)
    |some z =>
     rw[c,f] at e;have e:((y,z):Val t×Val (tys u l))=x:=Option.some.inj e;rw[<-e,Z7 c,<-i u b z f];exact aeL t u l y z
def acq (l:rT Ty) (b:rT DV) (x:Val (tyL l)) (e:amM l b=some x):aa5 l x=b:=by
 cases l with
 |nil=>cases b with
  |nil=>rfl
  |cons=>cases e
 |cons t l=>exact akt l t b x e
def νb (B:rT Bd) (ν:Nat->Value) (i:Nat):Value :=
 match jN B i with
 |some (.at_ id)=>ν id
 |some .new=>.slice none 0 0
 |_=>undef
structure Ext (M M':Mt):Prop where
 bd:∀i id,jN M.bd i=some (.at_ id)->jN M'.bd i=some (.at_ id)
 new:∀i,jN M.bd i=some .new->jN M'.bd i=some .new
 cons:M.cons <+: M'.cons
 vars:M.vars <+: M'.vars
 freed:∀i∈M.freed,i∈M'.freed
 len:M'.bd.length=M.bd.length
def Ext.refl (M:Mt):Ext M M:=⟨fun _ _ h=>h,fun _ h=>h,eO,eO,fun _ h=>h,rfl⟩
def Ext.trans {M c b:Mt} (h:Ext M c) (k:Ext c b):Ext M b :=
 ⟨fun i id q=>k.bd i id (h.bd i id q),fun i q=>k.new i (h.new i q),h.cons.trans k.cons,h.vars.trans k.vars,fun i q=>k.freed i (h.freed i q),k.len.trans h.len⟩
def mA:∀(l:rT Bd) (d:Nat) (b:Bd) (i:Nat),jN (Mu l d b) i=if i=d/\d<l.length then some b else jN l i
 |[],d,v,i=>by simp[Mu,jN]
 |x::xs,0,v,0=>by simp[Mu,jN]
 |x::xs,0,v,i+1=>by simp[Mu,jN]
 |x::xs,d+1,v,0=>by simp[Mu,jN]
 |x::xs,d+1,v,i+1=>by simp[Mu,jN,mA xs d v i]
def zD:∀(l:rT Bd) (d:Nat) (b:Bd),(Mu l d b).length=l.length
 |[],_,_=>rfl
 |_::_,0,_=>rfl
 |_::xs,d+1,v=>by simp[Mu,zD xs d v]
def DZ:∀{l:rT Bd} {i:Nat} {b:Bd},jN l i=some b->i<l.length
 |[],_,_,h=>by cases h
 |_::_,0,_,_=>gM _
 |_::_,i+1,_,h=>Nat.succ_lt_succ (DZ (by simpa[jN] using h))
def Ŝ {M d:Mt} {i id:Nat} (e:Ki M i id=some d):Ext M d/\jN d.bd i=some (.at_ id)/\d.cons=M.cons/\d.vars=M.vars:=by
 unfold Ki at e
 split at e<;>try (cases e; done)
 ·rename_i b;cases e;have k:=DZ b;refine⟨⟨fun j f q=>?_,fun j q=>?_,eO,eO,fun _ q=>q,zD _ _ _⟩,by simp[mA,k],rfl,rfl⟩
  ·simp only[mA]
   by_cases c:j=i
   ·subst c; rw[b] at q; cases q
   ·simp[c,q]
  ·simp only[mA]
   by_cases c:j=i
   ·subst c; rw[b] at q; cases q
   ·simp[c,q]
 ·rename_i f b
  split at e<;>try (cases e; done)
  rename_i hi;cases e;rw[eq_of_beq hi] at b;exact⟨Ext.refl _,b,rfl,rfl⟩
def Kh {M c:Mt} {i:Nat} (e:ab5 M i=some c):Ext M c/\jN c.bd i=some .new/\c.cons=M.cons/\c.vars=M.vars:=by
 unfold ab5 at e
 split at e<;>try (cases e; done)
 rename_i d;cases e;have f:=DZ d;refine⟨⟨fun j k q=>?_,fun j q=>?_,eO,eO,fun _ q=>q,zD _ _ _⟩,by simp[mA,f],rfl,rfl⟩
 ·simp only[mA]
  by_cases b:j=i
  ·subst b; rw[d] at q; cases q
  ·simp[b,q]
 ·simp only[mA]
  by_cases b:j=i
  ·subst b; rw[d] at q; cases q
  ·simp[b,q]
def kin:Blk->Blk->Prop
 |.row t _ false xs,B=>B=.row t 0 false xs
 |.row t g true xs,B=>B=.row t g true xs
 |.map k v es,B=>B=.map k v es
 |.cells _,B=>∃c,B=.cells c
 |.dead,B=>B=.dead
 |.acc t xs,B=>B=.acc t xs
 |.fns _,B=>∃b,B=.fns b
 |.iter s q,B=>B=.iter s q
structure Fin (ν:Nat->Value) (h:rT Blk) (w:World) (M:Mt) (h':rT Blk):Prop where
 at_:∀i id,jN M.bd i=some (.at_ id)->kin (lkB h id) (lkB h' i)
 new:∀i,jN M.bd i=some .new->∃t,lkB h' i=.row t 0 false []
 out:∀i,(∀id,jN M.bd i≠some (.at_ id))->jN M.bd i≠some .new->lkB h' i=.dead
 freed:∀id∈M.freed,∀i,jN M.bd i≠some (.at_ id)
 inj:∀i j id,jN M.bd i=some (.at_ id)->jN M.bd j=some (.at_ id)->i=j
def Fin.live {M:Mt} (F:Fin ν h w M h') {b:Nat} (hb:qD (νb M.bd ν) h' b):∃i id,jN M.bd i=some (.at_ id)/\(lkB h id).live=true/\Ĭ (ν id) b:=by
 obtain⟨i,c,j⟩:=hb
 cases d:jN M.bd i with
 |none=>rw[F.out i (by simp[d]) (by simp[d])] at c; cases c
 |some bd =>
  cases bd with
  |open_=>rw[F.out i (by simp[d]) (by simp[d])] at c; cases c
  |new=>simp only[νb,d] at j; cases j
  |at_ id =>
   refine⟨i,id,d,?_,by simpa[νb,d] using j⟩;have f:=F.at_ i id d
   cases e:lkB h id with
   |dead=>rw[e] at f; rw[show lkB h' i=_ from f] at c; cases c
   |cells=>rfl
   |map=>rfl
   |acc=>rfl
   |fns=>rfl
   |iter=>rfl
   |row t g fz xs =>
    cases fz with
    |false=>rfl
    |true=>rw[e] at f; rw[show lkB h' i=_ from f] at c; cases c
def Fin.subL {M:Mt} (F:Fin ν h w M h') (b:Nat) (hb:qD (νb M.bd ν) h' b):qD ν h b:=by
 obtain⟨i,id,_,h2,c⟩:=F.live hb;exact⟨id,h2,c⟩
def Fin.sub {M:Mt} (F:Fin ν h w M h') (b:Nat) (hb:Av (νb M.bd ν) h' b):Av ν h b:=hb.imp_left (F.subL b)
def adW (H:HR ν h w) {M:Mt} (F:Fin ν h w M h') {t:Ty} {v:AV} {u:Value} {x:Val t} (A:∀i∈Uq h v,i∈M.freed) (e:Ü t [ñ h v]=some x) (z:VR ν h w v u) :
 VR (νb M.bd ν) h' w (afG ⟨t,x⟩) u:=by
 have c:∀(r:v.isAgg=false) (q:v.isTup=false),CR w (Av (νb M.bd ν) h') t x [u]:=by
  intro r q;have o:=z.one r q;refine ċ e ⟨xp H F.sub o fun id b B m hb=>?_,trivial⟩;rintro(hlive|y)
  rotate_left
  ·exact H.ghne id b m hb y
  obtain⟨i,p,h2,E,C⟩:=F.live hlive;have s:id=p:=H.inj id p b m E hb C;subst s;refine F.freed id (A id ?_) i h2;rcases B with⟨g,rfl⟩|⟨g,lo,n,rfl⟩|rfl
  ·obtain⟨_,t',g',fz,xs,l,_⟩:=o;rw[l] at m
   cases fz with
   |true=>cases m
   |false=>simp[Uq,l]
  ·obtain⟨_,t',g',fz,xs,l,_⟩:=o;rw[l] at m
   cases fz with
   |true=>cases m
   |false=>simp[Uq,l]
  ·simp[Uq]
 have d:(t≠.unit/\∀a b,t≠.pair a b)->v.isAgg=false/\v.isTup=false:=fun⟨o,h2⟩=>by
  constructor
  ·cases v<;>try rfl
   cases t<;>first|(exact absurd rfl o)|(exact absurd rfl (h2 _ _))|(simp[ñ,Ü,ş] at e)
  ·cases v<;>try rfl
   cases t<;>first|(exact absurd rfl o)|(exact absurd rfl (h2 _ _))|(simp[ñ,Ü,ş] at e)
 cases t with
 |unit=>trivial
 |pair a b=>trivial
 |bool=>obtain⟨j,f⟩:=d ⟨by simp,by simp⟩; exact Kc (c j f)
 |int k=>obtain⟨j,f⟩:=d ⟨by simp,by simp⟩; exact Kc (c j f)
 |str=>obtain⟨j,f⟩:=d ⟨by simp,by simp⟩; exact Kc (c j f)
 |slice t=>obtain⟨j,f⟩:=d ⟨by simp,by simp⟩; exact Kc (c j f)
 |map k v=>obtain⟨j,f⟩:=d ⟨by simp,by simp⟩; exact Kc (c j f)
 |ptr t=>obtain⟨j,f⟩:=d ⟨by simp,by simp⟩; exact Kc (c j f)
def Ġ {α:Type} {l C:rT α} {d:α} (h:(l++[d]) <+: C):C.drop l.length=d::C.drop (l.length+1):=by
 obtain⟨t,rfl⟩:=h;simp[dH]
def jO {B:rT Bd} {i id:Nat} (h:jN B i=some (.at_ id)):νb B ν i=ν id:=by simp[νb,h]
def agn {B:rT Bd} {i:Nat} (h:jN B i=some .new):νb B ν i=.slice none 0 0:=by simp[νb,h]
def Ŵ:∀(ps:rT (Nat×Nat)) (vs:rT AV) (us:rT Value) (M M1:Mt),tr h ps vs M=some M1->Ext M M1/\M1.cons=M.cons/\M1.vars=M.vars /\
 ∀d,Ext M1 d->Fin ν h w d h'->ÿ (VR0 ν h w) vs us->ÿ (VR0 (νb d.bd ν) h' w) (ps.map fun c=>.box c.1 c.2) us
 |[],[],us,M,M1,e=>by
  cases e;exact⟨Ext.refl _,rfl,rfl,fun d _ _ f=>by cases us with|nil=>trivial|cons=>exact f.elim⟩
 |[],_::_,_,_,_,e=>by cases e
 |_::_,[],_,_,_,e=>by cases e
 |(i,o)::ps,v::vs,us,M,M1,e=>by
  cases v<;>try (simp[tr] at e; done)
  rename_i id off;simp only[tr] at e
  split at e<;>try (cases e; done)
  rename_i x
  split at e<;>try (cases e; done)
  rename_i cs y
  split at e<;>try (cases e; done)
  rename_i q hb;obtain⟨A,G,E,s⟩:=Ŝ hb;obtain⟨p,C,r,_⟩:=Ŵ ps vs us q M1 e;refine⟨A.trans p,C.trans E,r.trans s,fun d m F f=>?_⟩
  cases us with
  |nil=>exact f.elim
  |cons u us =>
   refine⟨?_,(Ŵ ps vs us q M1 e).2.2.2 d m F f.2⟩;obtain⟨B,b,H,h2,z⟩:=f.1;have j:=m.bd i id (p.bd i id G);have k:=F.at_ i id j;rw[y] at k;obtain⟨l,k⟩:=k;exact⟨l,b,k,(jO j).trans h2,by rw[eq_of_beq x]; exact z⟩
def oB:∀(ps:rT (ByteArray×Nat×rT (Nat×Nat))) (es:rT (ByteArray×AV)) (ms:rT MapEntry) (M M1:Mt),LZ h ps es M=some M1->Ext M M1/\M1.cons=M.cons/\M1.vars=M.vars /\
 ∀b,Ext M1 b->Fin ν h w b h'->W8 ν h w es ms->W8 (νb b.bd ν) h' w (ps.map fun e=>(e.1,.fn (.func e.2.1) [] (e.2.2.map fun c=>.box c.1 c.2))) ms
 |[],[],ms,M,M1,e=>by
  cases e;exact⟨Ext.refl _,rfl,rfl,fun b _ _ d=>by cases ms with|nil=>trivial|cons=>exact d.elim⟩
 |[],_::_,_,_,_,e=>by cases e
 |_::_,[],_,_,_,e=>by cases e
 |p::ps,x::es,ms,M,M1,e=>by
  obtain⟨s,v⟩:=x;simp only[LZ] at e
  split at e<;>try (cases e; done)
  rename_i f vs
  split at e<;>try (cases e; done)
  rename_i j;simp only[dt] at j;have A:=acx.1 j.1;have B:=dF j.2;subst B
  split at e<;>try (cases e; done)
  rename_i i l;obtain⟨E,H,u,_⟩:=Ŵ (ν:=ν) (w:=w) (h':=h') p.2.2 vs [] M i l;obtain⟨q,G,r,_⟩:=oB ps es ms i M1 e;refine⟨E.trans q,G.trans H,r.trans u,fun b o F d=>?_⟩
  cases ms with
  |nil=>exact d.elim
  |cons m ms =>
   refine⟨?_,(oB ps es ms i M1 e).2.2.2 b o F d.2⟩;obtain⟨k,h2,fs,cs,C,z,y⟩:=d.1;have k:m.key=.string s:=k;have:=(Ŵ (ν:=ν) (w:=w) (h':=h') p.2.2 vs cs.toList M i l).2.2.2 b (q.trans o) F y;exact⟨by rw[k,<-A],rfl,fs,cs,C,by rw[z.nil_left]; trivial,this⟩
def rest (b M:Mt):It:=⟨b.cons.drop M.cons.length,b.vars.drop M.vars.length⟩
def sG:∀(ts:rT Ty) (vs:rT AV) (M M1:Mt),xJ ts vs M=some M1->Ext M M1/\∀c,Ext M1 c->(Ax ts (rest c M)).2=rest c M1 /\
 ∀us:rT Value,Fin ν h w c h'->ÿ (VR0 ν h w) vs us->ÿ (VR0 (νb c.bd ν) h' w) (Ax ts (rest c M)).1 us
 |[],[],M,M1,e=>by
  cases e;exact⟨Ext.refl _,fun c _=>⟨rfl,fun us _ d=>by cases us with|nil=>trivial|cons=>exact d.elim⟩⟩
 |[],_::_,_,_,e=>by cases e
 |_::_,[],_,_,e=>by cases e
 |t::ts,v::vs,M,M1,e=>by
  cases v<;>try (simp[xJ] at e; done)
  rename_i t' x o;simp only[xJ] at e
  split at e<;>try (cases e; done)
  rename_i f
  split at e<;>try (cases e; done)
  rename_i B _;have f:=dF f;subst f;obtain⟨l,m⟩:=sG ts vs _ M1 e;have A:Ext M {M with cons:=M.cons++[⟨.ptr t',x⟩]}:=⟨fun _ _ q=>q,fun _ q=>q,eG _ _,eO,fun _ q=>q,rfl⟩;refine⟨A.trans l,fun c k=>?_⟩;obtain⟨j,i⟩:=m c k;have hd:=Ġ (l.trans k).cons
  have p:rest c {M with cons:=M.cons++[⟨.ptr t',x⟩]}=⟨c.cons.drop (M.cons.length+1),c.vars.drop M.vars.length⟩:=by simp[rest]
  rw[p] at j i;simp only[rest,Ax,hd];refine⟨j,fun us F d=>?_⟩
  cases us with
  |nil=>exact d.elim
  |cons u us =>
   refine⟨?_,i us F d.2⟩;obtain⟨b,o,ws,z,h2,y,s,r⟩:=d.1;exact⟨b,o,ws,z,fun h=>h2 (F.sub b h),y,CR.mono F.sub s,r⟩
def M4 (H:HR ν h w) {p:Pat} {v:AV} {M M1:Mt} (e:Š h p v M=some M1):Ext M M1/\∀j u,Ext M1 j->Fin ν h w j h'->VR ν h w v u ->
 VR (νb j.bd ν) h' w (sR p ⟨j.cons.drop M.cons.length,j.vars.drop M.vars.length⟩).1 u /\
  (sR p ⟨j.cons.drop M.cons.length,j.vars.drop M.vars.length⟩).2=⟨j.cons.drop M1.cons.length,j.vars.drop M1.vars.length⟩:=by
 cases p with
 |any=>cases e; exact⟨Ext.refl _,fun j u _ _ _=>⟨trivial,rfl⟩⟩
 |con t =>
  simp only[Š] at e
  split at e<;>try (cases e; done)
  rename_i x L;cases e;refine⟨⟨fun _ _ q=>q,fun _ q=>q,eG _ _,eO,fun _ q=>d8 _ q,rfl⟩,fun j u l F d=>?_⟩;have hd:=Ġ l.cons;simp only[sR,hd];exact⟨adW H F (fun i hi=>l.freed i (eZ _ hi)) L d,by simp⟩
 |var t =>
  simp only[Š] at e
  split at e<;>try (cases e; done)
  rename_i x L;cases e;refine⟨⟨fun _ _ q=>q,fun _ q=>q,eO,eG _ _,fun _ q=>d8 _ q,rfl⟩,fun j u l F d=>?_⟩;have hd:=Ġ l.vars;simp only[sR,hd];exact⟨adW H F (fun i hi=>l.freed i (eZ _ hi)) L d,by simp⟩
 |own i =>
  simp only[Š] at e
  split at e<;>try (cases e; done)
  ·rename_i id g
   split at e<;>try (cases e; done)
   rename_i t g' xs B
   split at e<;>try (cases e; done)
   rename_i Z;obtain⟨o,A,y,r⟩:=Ŝ e;refine⟨o,fun j u l F d=>⟨?_,by simp only[sR,y,r]⟩⟩;have c:=l.bd i id A;have m:=F.at_ i id c;rw[B] at m;obtain⟨E,t2,g2,fz2,W,z,_,C⟩:=d;rw[B] at z; cases z;exact⟨E,t,0,false,xs,m,du _,fun _=>(C (eq_of_beq Z)).trans (jO c).symm⟩
  ·obtain⟨o,A,y,r⟩:=Kh e;refine⟨o,fun j u l F d=>⟨?_,by simp only[sR,y,r]⟩⟩;have I:=l.new i A;obtain⟨t,m⟩:=F.new i I;have V:u=.slice none 0 0:=d;exact⟨by rw[V]; rfl,t,0,false,[],m,du _,fun _=>V.trans (agn I).symm⟩
 |omp i =>
  simp only[Š] at e
  split at e<;>try (cases e; done)
  rename_i id
  split at e<;>try (cases e; done)
  rename_i k Y es B;obtain⟨o,A,y,r⟩:=Ŝ e;refine⟨o,fun j u l F d=>⟨?_,by simp only[sR,y,r]⟩⟩;have c:=l.bd i id A;have m:=F.at_ i id c;rw[B] at m;obtain⟨E,U,v2,O,z,C⟩:=d;exact⟨E,k,Y,es,m,C.trans (jO c).symm⟩
 |box i off =>
  simp only[Š] at e
  split at e<;>try (cases e; done)
  rename_i id T
  split at e<;>try (cases e; done)
  rename_i G
  split at e<;>try (cases e; done)
  rename_i cs B;obtain⟨o,A,y,r⟩:=Ŝ e;refine⟨o,fun j u l F d=>⟨?_,by simp only[sR,y,r]⟩⟩;have c:=l.bd i id A;have m:=F.at_ i id c;rw[B] at m;obtain⟨S,m⟩:=m;obtain⟨cs',b,h1,h2,h3⟩:=d;exact⟨S,b,m,(jO c).trans h2,by rw[eq_of_beq G]; exact h3⟩
 |nils =>
  simp only[Š] at e
  split at e<;>try (cases e; done)
  cases e;exact⟨Ext.refl _,fun j u _ _ d=>⟨d,rfl⟩⟩
 |nilp =>
  simp only[Š] at e
  split at e<;>try (cases e; done)
  cases e;exact⟨Ext.refl _,fun j u _ _ d=>⟨d,rfl⟩⟩
 |nilfn =>
  simp only[Š] at e
  split at e<;>try (cases e; done)
  cases e;exact⟨Ext.refl _,fun j u _ _ d=>⟨d,rfl⟩⟩
 |yld =>
  simp only[Š] at e
  split at e<;>try (cases e; done)
  cases e;exact⟨Ext.refl _,fun j u _ _ d=>⟨d,rfl⟩⟩
 |ofn i =>
  simp only[Š] at e
  split at e<;>try (cases e; done)
  rename_i id
  split at e<;>try (cases e; done)
  rename_i es B;obtain⟨o,A,y,r⟩:=Ŝ e;refine⟨o,fun j u l F d=>⟨?_,by simp only[sR,y,r]⟩⟩;have c:=l.bd i id A;have m:=F.at_ i id c;rw[B] at m;obtain⟨R,m⟩:=m;obtain⟨E,O,z,C⟩:=d;exact⟨E,R,m,C.trans (jO c).symm⟩
 |oit i =>
  simp only[Š] at e
  split at e<;>try (cases e; done)
  rename_i id
  split at e<;>try (cases e; done)
  rename_i s q B;obtain⟨o,A,y,r⟩:=Ŝ e;refine⟨o,fun j u l F d=>⟨?_,by simp only[sR,y,r]⟩⟩;have c:=l.bd i id A;have m:=F.at_ i id c;rw[B] at m;obtain⟨E,s2,J,z,C⟩:=d;exact⟨E,s,q,m,C.trans (jO c).symm⟩
 |fn f caps =>
  simp only[Š] at e
  split at e<;>try (cases e; done)
  rename_i f' vs
  split at e<;>try (cases e; done)
  rename_i N;obtain⟨o,y,r,_⟩:=Ŵ (ν:=ν) (w:=w) (h':=h') caps vs [] M M1 e;refine⟨o,fun j u l F d=>⟨?_,by simp only[sR,y,r]⟩⟩;obtain⟨fs,cs,rfl,K,J⟩:=d;have:=(Ŵ (ν:=ν) (w:=w) (h':=h') caps vs cs.toList M M1 e).2.2.2 j l F J;exact⟨fs,cs,by rw[eq_of_beq N],by rw[K.nil_left]; trivial,this⟩
 |fnd f ts =>
  simp only[Š] at e
  split at e<;>try (cases e; done)
  rename_i f' vs
  split at e<;>try (cases e; done)
  rename_i N;obtain⟨o,k⟩:=sG (ν:=ν) (h:=h) (w:=w) (h':=h') ts vs M M1 e;refine⟨o,fun j u l F d=>?_⟩;obtain⟨k1,U⟩:=k j l;obtain⟨fs,cs,rfl,K,J⟩:=d;exact⟨⟨fs,cs,by rw[eq_of_beq N],by rw[K.nil_left]; trivial,U cs.toList F J⟩,k1⟩
def xy {b M M1:Mt} (c:M1.cons=M.cons) (h2:M1.vars=M.vars):rest b M=rest b M1:=by simp only[rest,c,h2]
def vh {p:Pat} {v:AV} {M M1:Mt} (e:Š h p v M=some M1):Ext M M1/\∀b,Ext M1 b->(sR p (rest b M)).2=rest b M1:=by
 cases p with
 |any=>cases e; exact⟨Ext.refl _,fun b _=>rfl⟩
 |con t =>
  simp only[Š] at e
  split at e<;>try (cases e; done)
  rename_i x o;cases e;refine⟨⟨fun _ _ q=>q,fun _ q=>q,eG _ _,eO,fun _ q=>d8 _ q,rfl⟩,fun b l=>?_⟩;have hd:=Ġ l.cons;simp only[rest,sR,hd]; simp
 |var t =>
  simp only[Š] at e
  split at e<;>try (cases e; done)
  rename_i x o;cases e;refine⟨⟨fun _ _ q=>q,fun _ q=>q,eO,eG _ _,fun _ q=>d8 _ q,rfl⟩,fun b l=>?_⟩;have hd:=Ġ l.vars;simp only[rest,sR,hd]; simp
 |own i =>
  simp only[Š] at e
  split at e<;>try (cases e; done)
  ·split at e<;>try (cases e; done)
   split at e<;>try (cases e; done)
   obtain⟨c,m,j,d⟩:=Ŝ e;exact⟨c,fun b l=>xy j d⟩
  ·obtain⟨c,m,j,d⟩:=Kh e;exact⟨c,fun b l=>xy j d⟩
 |omp i =>
  simp only[Š] at e
  split at e<;>try (cases e; done)
  split at e<;>try (cases e; done)
  obtain⟨c,m,j,d⟩:=Ŝ e;exact⟨c,fun b l=>xy j d⟩
 |box i off =>
  simp only[Š] at e
  split at e<;>try (cases e; done)
  split at e<;>try (cases e; done)
  split at e<;>try (cases e; done)
  obtain⟨c,m,j,d⟩:=Ŝ e;exact⟨c,fun b l=>xy j d⟩
 |nils =>
  simp only[Š] at e
  split at e<;>try (cases e; done)
  cases e; exact⟨Ext.refl _,fun b _=>rfl⟩
 |nilp =>
  simp only[Š] at e
  split at e<;>try (cases e; done)
  cases e; exact⟨Ext.refl _,fun b _=>rfl⟩
 |nilfn =>
  simp only[Š] at e
  split at e<;>try (cases e; done)
  cases e; exact⟨Ext.refl _,fun b _=>rfl⟩
 |yld =>
  simp only[Š] at e
  split at e<;>try (cases e; done)
  cases e; exact⟨Ext.refl _,fun b _=>rfl⟩
 |ofn i =>
  simp only[Š] at e
  split at e<;>try (cases e; done)
  split at e<;>try (cases e; done)
  obtain⟨c,m,j,d⟩:=Ŝ e;exact⟨c,fun b l=>xy j d⟩
 |oit i =>
  simp only[Š] at e
  split at e<;>try (cases e; done)
  split at e<;>try (cases e; done)
  obtain⟨c,m,j,d⟩:=Ŝ e;exact⟨c,fun b l=>xy j d⟩
 |fn f caps =>
  simp only[Š] at e
  split at e<;>try (cases e; done)
  rename_i r vs
  split at e<;>try (cases e; done)
  obtain⟨c,j,d,_⟩:=Ŵ (ν:=fun _=>undef) (w:=default) (h':=[]) caps vs [] M M1 e;exact⟨c,fun b l=>xy j d⟩
 |fnd f ts =>
  simp only[Š] at e
  split at e<;>try (cases e; done)
  rename_i r vs
  split at e<;>try (cases e; done)
  obtain⟨c,k⟩:=sG (ν:=fun _=>undef) (h:=[]) (w:=default) (h':=[]) ts vs M M1 e;exact⟨c,fun b l=>(k b l).1⟩
def uE (p:Pat) (ps:rT Pat) (I:It):IG (p::ps) I=((sR p I).1::(IG ps (sR p I).2).1,(IG ps (sR p I).2).2):=rfl
def Dm:∀{ps:rT Pat} {vs:rT AV} {M M1:Mt},TD h ps vs M=some M1->Ext M M1/\∀b,Ext M1 b->(IG ps (rest b M)).2=rest b M1
 |[],vs,M,M1,e=>by cases e; exact⟨Ext.refl _,fun b _=>rfl⟩
 |p::ps,vs,M,M1,e=>by
  simp only[TD] at e
  split at e<;>try (cases e; done)
  rename_i j f;obtain⟨i,t1⟩:=vh f;obtain⟨d,t2⟩:=Dm e;exact⟨i.trans d,fun b c=>by rw[uE,t1 b (d.trans c)]; exact t2 b c⟩
def Yp (H:HR ν h w):∀{ps:rT Pat} {vs:rT AV} {M M1:Mt},TD h ps vs M=some M1->∀b,Ext M1 b->Fin ν h w b h'->∀f:Nat->Value,(∀k,VR ν h w (lk vs k) (f k)) ->
 ∀k,VR (νb b.bd ν) h' w (lk (IG ps (rest b M)).1 k) (f k)
 |[],vs,M,M1,e,b,_,_,f,_,k=>trivial
 |p::ps,vs,M,M1,e,b,c,F,f,d,k=>by
  simp only[TD] at e
  split at e<;>try (cases e; done)
  rename_i o i;obtain⟨m,t1⟩:=vh i;obtain⟨j,t2⟩:=Dm e;rw[uE,t1 b (j.trans c)]
  cases k with
  |zero=>exact((M4 H i).2 b (f 0) (j.trans c) F (d 0)).1
  |succ k =>
   have l:∀k,lk vs.tail k=lk vs (k+1):=fun k=>by cases vs<;>rfl
   exact Yp H e b c F (fun k=>f (k+1)) (fun k=>by rw[l]; exact d (k+1)) k
def pM:∀{ps:rT Pat} {vs:rT AV} {M M1:Mt},pq h ps vs M=some M1->Ext M M1/\∀b,Ext M1 b->(IG ps (rest b M)).2=rest b M1
 |[],[],M,M1,e=>by cases e; exact⟨Ext.refl _,fun b _=>rfl⟩
 |[],_::_,M,M1,e=>by cases e
 |_::_,[],M,M1,e=>by cases e
 |p::ps,v::vs,M,M1,e=>by
  simp only[pq] at e
  split at e<;>try (cases e; done)
  rename_i j f;obtain⟨i,t1⟩:=vh f;obtain⟨d,t2⟩:=pM e;exact⟨i.trans d,fun b c=>by rw[uE,t1 b (d.trans c)]; exact t2 b c⟩
def afs (p:Pat) (I:It):(sR p I).1.isAgg=false/\(sR p I).1.isTup=false:=by
 have b:∀d:DV,(afG d).isAgg=false/\(afG d).isTup=false:=fun d=>by
  obtain⟨t,x⟩:=d
  cases t<;>exact⟨rfl,rfl⟩
 cases p<;>simp only[sR]<;>try exact⟨rfl,rfl⟩
 ·split<;>first|exact b _|exact⟨rfl,rfl⟩
 ·split<;>first|exact b _|exact⟨rfl,rfl⟩
def EN (H:HR ν h w):∀{ps:rT Pat} {vs:rT AV} {us:rT Value} {M M1:Mt},pq h ps vs M=some M1->∀b,Ext M1 b->Fin ν h w b h'->ÿ (VRc ν h w) vs us ->
 ÿ (VRc (νb b.bd ν) h' w) (IG ps (rest b M)).1 us
 |[],[],us,M,M1,e,b,_,_,c=>by cases us with|nil=>trivial|cons=>exact c.elim
 |[],_::_,_,M,M1,e,_,_,_,_=>by cases e
 |_::_,[],_,M,M1,e,_,_,_,_=>by cases e
 |p::ps,v::vs,us,M,M1,e,b,f,F,c=>by
  simp only[pq] at e
  split at e<;>try (cases e; done)
  rename_i l i;obtain⟨k,t1⟩:=vh i;obtain⟨j,t2⟩:=pM e;rw[uE,t1 b (j.trans f)]
  cases us with
  |nil=>exact c.elim
  |cons u us =>
   have h2:=((M4 H i).2 b u (j.trans f) F c.1.1.up).1;have d:=afs p (rest b M);exact⟨⟨h2.one d.1 d.2,c.1.2⟩,EN H e b f F c.2⟩
def Me (M:Mt) (d:DV):Ext M {M with cons:=M.cons++[d]}:=⟨fun _ _ q=>q,fun _ q=>q,eG _ _,eO,fun _ q=>q,rfl⟩
def Hk (M:Mt) (d:DV):Ext M {M with vars:=M.vars++[d]}:=⟨fun _ _ q=>q,fun _ q=>q,eO,eG _ _,fun _ q=>q,rfl⟩
def Dn {p:Χ} {i:Nat} {M M1:Mt} (e:Ĺ h p i M=some M1):Ext M M1/\∀d,Ext M1 d->(xh p (rest d M)).2=rest d M1 /\
 ((∃id,jN M.bd i=some (.at_ id)/\kin (lkB h id) (xh p (rest d M)).1)\/(jN M.bd i=some .new/\∃t,(xh p (rest d M)).1=.row t 0 false [])):=by
 cases p with
 |dead =>
  simp only[Ĺ] at e
  split at e<;>try (cases e; done)
  rename_i id hb
  split at e<;>try (cases e; done)
  rename_i c;cases e;exact⟨Ext.refl _,fun d _=>⟨rfl,.inl ⟨id,hb,by rw[c]; rfl⟩⟩⟩
 |cells ps =>
  simp only[Ĺ] at e
  split at e<;>try (cases e; done)
  rename_i id hb
  split at e<;>try (cases e; done)
  rename_i cs c;obtain⟨j,t1⟩:=pM e;exact⟨j,fun d b=>⟨t1 d b,.inl ⟨id,hb,by rw[c]; exact⟨_,rfl⟩⟩⟩⟩
 |rowc t =>
  simp only[Ĺ] at e
  split at e<;>try (cases e; done)
  ·rename_i id hb
   split at e<;>try (cases e; done)
   rename_i t' g xs c
   split at e<;>try (cases e; done)
   cases e;refine⟨Me _ _,fun d b=>?_⟩;have hd:=Ġ b.cons;simp only[rest,xh,hd];exact⟨by simp,.inl ⟨id,hb,by rw[c]; rfl⟩⟩
  ·rename_i hb;cases e;refine⟨Me _ _,fun d b=>?_⟩;have hd:=Ġ b.cons;simp only[rest,xh,hd];exact⟨by simp,.inr ⟨hb,t,rfl⟩⟩
 |rowf t g =>
  simp only[Ĺ] at e
  split at e<;>try (cases e; done)
  rename_i id hb
  split at e<;>try (cases e; done)
  rename_i t' g' xs c
  split at e<;>try (cases e; done)
  split at e<;>try (cases e; done)
  rename_i r _;subst r;cases e;refine⟨Me _ _,fun d b=>?_⟩;have hd:=Ġ b.cons;simp only[rest,xh,hd];exact⟨by simp,.inl ⟨id,hb,by rw[c]; rfl⟩⟩
 |rowv t =>
  simp only[Ĺ] at e
  split at e<;>try (cases e; done)
  ·rename_i id hb
   split at e<;>try (cases e; done)
   rename_i t' g xs c
   split at e<;>try (cases e; done)
   cases e;refine⟨Hk _ _,fun d b=>?_⟩;have hd:=Ġ b.vars;simp only[rest,xh,hd];exact⟨by simp,.inl ⟨id,hb,by rw[c]; rfl⟩⟩
  ·rename_i hb;cases e;refine⟨Hk _ _,fun d b=>?_⟩;have hd:=Ġ b.vars;simp only[rest,xh,hd];exact⟨by simp,.inr ⟨hb,t,rfl⟩⟩
 |mapc k v =>
  simp only[Ĺ] at e
  split at e<;>try (cases e; done)
  rename_i id hb
  split at e<;>try (cases e; done)
  rename_i o m es c
  split at e<;>try (cases e; done)
  cases e;refine⟨Me _ _,fun d b=>?_⟩;have hd:=Ġ b.cons;simp only[rest,xh,hd];exact⟨by simp,.inl ⟨id,hb,by rw[c]; rfl⟩⟩
 |mapv k v =>
  simp only[Ĺ] at e
  split at e<;>try (cases e; done)
  rename_i id hb
  split at e<;>try (cases e; done)
  rename_i o m es c
  split at e<;>try (cases e; done)
  cases e;refine⟨Hk _ _,fun d b=>?_⟩;have hd:=Ġ b.vars;simp only[rest,xh,hd];exact⟨by simp,.inl ⟨id,hb,by rw[c]; rfl⟩⟩
 |fns es =>
  simp only[Ĺ] at e
  split at e<;>try (cases e; done)
  rename_i id hb
  split at e<;>try (cases e; done)
  rename_i f c;obtain⟨j,u,l,_⟩:=oB (ν:=fun _=>undef) (w:=default) (h':=[]) es f [] M M1 e;exact⟨j,fun d b=>⟨xy u l,.inl ⟨id,hb,by rw[c]; exact⟨_,rfl⟩⟩⟩⟩
 |acc t =>
  simp only[Ĺ] at e
  split at e<;>try (cases e; done)
  rename_i id hb
  split at e<;>try (cases e; done)
  rename_i t' xs c
  split at e<;>try (cases e; done)
  cases e;refine⟨Hk _ _,fun d b=>?_⟩;have hd:=Ġ b.vars;simp only[rest,xh,hd];exact⟨by simp,.inl ⟨id,hb,by rw[c]; rfl⟩⟩
 |itr =>
  simp only[Ĺ] at e
  split at e<;>try (cases e; done)
  rename_i id hb
  split at e<;>try (cases e; done)
  rename_i s q c;cases e;refine⟨Hk _ _,fun d b=>?_⟩;have hd:=Ġ b.vars;simp only[rest,xh,hd];exact⟨by simp,.inl ⟨id,hb,by rw[c]; rfl⟩⟩
def ahv (H:HR ν h w) {p:Χ} {i id:Nat} {M M1:Mt} {cs:rT AV} (e:Ĺ h p i M=some M1) (hb:jN M.bd i=some (.at_ id)) (b:lkB h id=.cells cs) {d:Mt} (j:Ext M1 d) (F:Fin ν h w d h') {us:rT Value} (f:ÿ (VRc ν h w) cs us) :
 ∃c,(xh p (rest d M)).1=.cells c/\ÿ (VRc (νb d.bd ν) h' w) c us:=by
 cases p with
 |cells ps =>
  simp only[Ĺ,hb,b] at e;exact⟨_,rfl,EN H e d j F f⟩
 |dead=>simp[Ĺ,hb,b] at e
 |rowc t=>simp[Ĺ,hb,b] at e
 |rowf t g=>simp[Ĺ,hb,b] at e
 |rowv t=>simp[Ĺ,hb,b] at e
 |mapc k v=>simp[Ĺ,hb,b] at e
 |mapv k v=>simp[Ĺ,hb,b] at e
 |acc t=>simp[Ĺ,hb,b] at e
 |itr=>simp[Ĺ,hb,b] at e
 |fns es=>simp[Ĺ,hb,b] at e
def aeS {p:Χ} {i id:Nat} {M M1:Mt} {es:rT (ByteArray×AV)} (e:Ĺ h p i M=some M1) (hb:jN M.bd i=some (.at_ id)) (b:lkB h id=.fns es) {d:Mt} (j:Ext M1 d) (F:Fin ν h w d h') {ms:rT MapEntry} (f:W8 ν h w es ms) :
 ∃c,(xh p (rest d M)).1=.fns c/\W8 (νb d.bd ν) h' w c ms:=by
 cases p with
 |fns es0 =>
  simp only[Ĺ,hb,b] at e;exact⟨_,rfl,(oB es0 es ms M M1 e).2.2.2 d j F f⟩
 |cells ps=>simp[Ĺ,hb,b] at e
 |dead=>simp[Ĺ,hb,b] at e
 |rowc t=>simp[Ĺ,hb,b] at e
 |rowf t g=>simp[Ĺ,hb,b] at e
 |rowv t=>simp[Ĺ,hb,b] at e
 |mapc k v=>simp[Ĺ,hb,b] at e
 |mapv k v=>simp[Ĺ,hb,b] at e
 |acc t=>simp[Ĺ,hb,b] at e
 |itr=>simp[Ĺ,hb,b] at e
def Ay (p:Χ) (ps:rT Χ) (I:It):D0 (p::ps) I=((xh p I).1::(D0 ps (xh p I).2).1,(D0 ps (xh p I).2).2):=rfl
def si:∀(ps:rT Χ) (I:It),(D0 ps I).1.length=ps.length
 |[],_=>rfl
 |p::ps,I=>by rw[Ay]; simp[si ps]
def vg:∀{ps:rT Χ} {i:Nat} {M M1:Mt},Ju h ps i M=some M1->Ext M M1/\∀b,Ext M1 b->∀k,k<ps.length ->
 (∃id,jN b.bd (i+k)=some (.at_ id)/\kin (lkB h id) (lkB (D0 ps (rest b M)).1 k))\/(jN b.bd (i+k)=some .new/\∃t,lkB (D0 ps (rest b M)).1 k=.row t 0 false [])
 |[],i,M,M1,e=>by cases e; exact⟨Ext.refl _,fun b _ k l=>by simp at l⟩
 |p::ps,i,M,M1,e=>by
  simp only[Ju] at e
  split at e<;>try (cases e; done)
  rename_i s r;obtain⟨m,t1⟩:=Dn r;obtain⟨d,t2⟩:=vg e;refine⟨m.trans d,fun b c k l=>?_⟩;obtain⟨q,o⟩:=t1 b (d.trans c);rw[Ay,q]
  cases k with
  |zero =>
   rcases o with⟨id,j,f⟩|⟨j,f⟩
   ·exact .inl ⟨id,(m.trans (d.trans c)).bd _ _ j,f⟩
   ·exact .inr ⟨(m.trans (d.trans c)).new _ j,f⟩
  |succ k =>
   have:=t2 b c k (by simpa using l);rw[show i+(k+1)=i+1+k by omega];exact this
def Yq (H:HR ν h w):∀{ps:rT Χ} {i:Nat} {M M1:Mt},Ju h ps i M=some M1->∀c,Ext M1 c->Fin ν h w c h'->∀k id cs us,k<ps.length->jN c.bd (i+k)=some (.at_ id)->lkB h id=.cells cs->ÿ (VRc ν h w) cs us ->
 ∃f,lkB (D0 ps (rest c M)).1 k=.cells f/\ÿ (VRc (νb c.bd ν) h' w) f us
 |[],i,M,M1,e,c,_,_,k,_,_,_,m,_,_,_=>by simp at m
 |p::ps,i,M,M1,e,c,d,F,k,id,cs,us,m,hb,q,o=>by
  simp only[Ju] at e
  split at e<;>try (cases e; done)
  rename_i z r;obtain⟨s,t1⟩:=Dn r;obtain⟨l,t2⟩:=vg e;obtain⟨v,u⟩:=t1 c (l.trans d);rw[Ay,v]
  cases k with
  |zero =>
   rcases u with⟨y,j,x⟩|⟨j,x⟩
   ·have:=(s.trans (l.trans d)).bd _ _ j;have b:jN c.bd i=some (.at_ id):=hb;rw[this] at b;cases b;exact ahv H r j q (l.trans d) F o
   ·have:=(s.trans (l.trans d)).new _ j;have b:jN c.bd i=some (.at_ id):=hb;rw[this] at b;cases b
  |succ k=>exact Yq H e c d F k id cs us (by simpa using m) (by rw[show i+1+k=i+(k+1) by omega]; exact hb) q o
def TE:∀{ps:rT Χ} {i:Nat} {M M1:Mt},Ju h ps i M=some M1->∀c,Ext M1 c->Fin ν h w c h'->∀k id es ms,k<ps.length->jN c.bd (i+k)=some (.at_ id)->lkB h id=.fns es->W8 ν h w es ms ->
 ∃f,lkB (D0 ps (rest c M)).1 k=.fns f/\W8 (νb c.bd ν) h' w f ms
 |[],i,M,M1,e,c,_,_,k,_,_,_,m,_,_,_=>by simp at m
 |p::ps,i,M,M1,e,c,d,F,k,id,es,ms,m,hb,q,o=>by
  simp only[Ju] at e
  split at e<;>try (cases e; done)
  rename_i z r;obtain⟨s,t1⟩:=Dn r;obtain⟨l,t2⟩:=vg e;obtain⟨v,u⟩:=t1 c (l.trans d);rw[Ay,v]
  cases k with
  |zero =>
   rcases u with⟨y,j,x⟩|⟨j,x⟩
   ·have:=(s.trans (l.trans d)).bd _ _ j;have b:jN c.bd i=some (.at_ id):=hb;rw[this] at b;cases b;exact aeS r j q (l.trans d) F o
   ·have:=(s.trans (l.trans d)).new _ j;have b:jN c.bd i=some (.at_ id):=hb;rw[this] at b;cases b
  |succ k=>exact TE e c d F k id es ms (by simpa using m) (by rw[show i+1+k=i+(k+1) by omega]; exact hb) q o
def GS:∀{l:rT Bd} {i id:Nat},jN l i=some (.at_ id)->id∈Lz l
 |[],_,_,h=>by cases h
 |x::l,0,id,h=>by
  simp only[jN,Option.some.injEq] at h;subst h; simp[Lz]
 |x::l,i+1,id,h=>by
  have:=GS (l:=l) (i:=i) (id:=id) h
  cases x<;>simp[Lz,this]
def Kd:∀{l:rT Bd} {i j id:Nat},distinct (Lz l)=true->jN l i=some (.at_ id)->jN l j=some (.at_ id)->i=j
 |[],_,_,_,_,h,_=>by cases h
 |x::l,0,0,_,_,_,_=>rfl
 |x::l,0,j+1,id,hd,b,h2=>by
  simp only[jN,Option.some.injEq] at b;subst b;simp only[Lz,distinct,dt] at hd;have:=GS (l:=l) (i:=j) (id:=id) h2;simp[this] at hd
 |x::l,i+1,0,id,hd,b,h2=>by
  simp only[jN,Option.some.injEq] at h2;subst h2;simp only[Lz,distinct,dt] at hd;have:=GS (l:=l) (i:=i) (id:=id) b;simp[this] at hd
 |x::l,i+1,j+1,id,hd,b,h2=>by
  have c:distinct (Lz l)=true:=by
   cases x<;>simp only[Lz,distinct,dt] at hd<;>first|exact hd|exact hd.2
  rw[Kd (l:=l) c b h2]
def aeu {pin n i:Nat} (hi:i<pin) (d:pin<=n):jN (C4 pin n) i=some (.at_ i):=by
 have b:∀(l:rT Bd) (k:Nat),jN l k=l[k]?:=by
  intro l
  induction l with
  |nil=>intro k; simp[jN]
  |cons x l c=>intro k; cases k with
   |zero=>rfl
   |succ k=>simpa[jN] using c k
 rw[b,C4,eY,List.getElem?_range (by omega)];simp[hi]
def Uo:∀{pin:Nat},alp h pin=true->∀i,i<pin->∀t g xs,lkB h i=.row t g false xs->g=0
 |0,_,i,hi,_,_,_,_=>by omega
 |pin+1,b,i,hi,t,g,xs,d=>by
  simp only[alp] at b
  split at b<;>try (cases b; done)
  rename_i c;rcases Nat.lt_succ_iff_lt_or_eq.1 hi with e|rfl
  ·exact Uo b i e t g xs d
  ·cases g with
   |zero=>rfl
   |succ g=>exact absurd d (c _ _ _)
def Uj:∀(l:rT AV) (n k:Nat),lk (l++List.replicate n .any) k=lk l k
 |[],0,_=>rfl
 |[],n+1,0=>rfl
 |[],n+1,k+1=>by simpa[List.replicate_succ,akh,aki,akg] using Uj [] n k
 |x::l,n,0=>rfl
 |x::l,n,k+1=>by simpa[akh,aki,akg] using Uj l n k
def J5:∀(ps:rT Pat) (I:It),(IG ps I).1.length=ps.length
 |[],_=>rfl
 |p::ps,I=>by rw[uE]; simp[J5 ps]
def vf:aka:=by
 intro T pin cs vs S p v ν a w e H;unfold tq at e
 split at e<;>try (cases e; done)
 rename_i hc;simp only[dt,decide_eq_true_eq] at hc;obtain⟨c1,c2,c3,c4⟩:=hc
 split at e<;>try (cases e; done)
 rename_i R hL
 split at e<;>try (cases e; done)
 rename_i M hH
 split at e<;>try (cases e; done)
 rename_i hd;simp only[dt,dM] at hd;obtain⟨d1,d2⟩:=hd
 split at e<;>try (cases e; done)
 rename_i p' v' hp hv;cases e;have ep:aa5 cs p=M.cons:=acq cs _ _ hp;have ev:aa5 vs v=M.vars:=acq vs _ _ hv;obtain⟨eL,tL⟩:=Dm hL;obtain⟨eH,tH⟩:=vg hH
 -- the state of the pattern
 have hI0:({cons:=aa5 cs p,vars:=aa5 vs v}:It)=rest M {bd:=C4 pin T.heap.length,cons:=[],vars:=[],freed:=[]}:=by
  simp[rest,ep,ev]
 have N:à T cs vs p v={t:=(IG T.slots (rest M {bd:=C4 pin T.heap.length,cons:=[],vars:=[],freed:=[]})).1++List.replicate (T.n-T.slots.length) .any,h:=(D0 T.heap (rest M R)).1}:=by
  unfold à;rw[hI0];have:=tL M eH;show(St.mk _ _)=_;rw[show(IG T.slots (rest M {bd:=C4 pin T.heap.length,cons:=[],vars:=[],freed:=[]})).2=rest M R from this]
 rw[N]
 have z:M.bd.length=T.heap.length:=by rw[eH.len,eL.len]; simp[C4]
 have I:(D0 T.heap (rest M R)).1.length=T.heap.length:=si _ _
 have F:Fin ν S.h w M (D0 T.heap (rest M R)).1:=by
  refine⟨fun i id hb=>?_,fun i hb=>?_,fun i h1 h2=>?_,fun id hid i hb=>?_,fun i j id=>Kd d1⟩
  ·have hi:i<T.heap.length:=by rw[<-z]; exact DZ hb
   rcases tH M (Ext.refl _) i hi with⟨G,f,r⟩|⟨f,_⟩
   ·rw[dW,hb] at f; cases f; exact r
   ·rw[dW,hb] at f; cases f
  ·have hi:i<T.heap.length:=by rw[<-z]; exact DZ hb
   rcases tH M (Ext.refl _) i hi with⟨G,f,r⟩|⟨f,r⟩
   ·rw[dW,hb] at f; cases f
   ·exact r
  ·rcases dV i T.heap.length with hi|hi
   ·rcases tH M (Ext.refl _) i hi with⟨G,f,r⟩|⟨f,r⟩
    ·rw[dW] at f; exact absurd f (h1 G)
    ·rw[dW] at f; exact absurd f h2
   ·exact GG _ _ (by rw[I]; exact hi)
  ·have:=d2 id hid;have hm:=GS hb;simp[hm] at this
 have hHR:HR (νb M.bd ν) (D0 T.heap (rest M R)).1 w:=by
  refine⟨fun i=>?_,fun i j b hi hj J hbj=>?_,H.heap.ghlt,fun i b y hb hg=>?_,H.heap.glob,fun b hb hL=>H.heap.globL b hb (F.subL b hL)⟩
  rotate_left 2
  ·obtain⟨id,f,r⟩:=F.subL b ⟨i,y,hb⟩;exact H.heap.ghne id b f r hg
  ·cases hb:jN M.bd i with
   |none=>rw[F.out i (by simp[hb]) (by simp[hb])]; trivial
   |some x =>
    cases x with
    |open_=>rw[F.out i (by simp[hb]) (by simp[hb])]; trivial
    |new =>
     obtain⟨t,ht⟩:=F.new i hb;rw[ht];exact⟨none,0,agn hb,du _,.inl ⟨rfl,rfl⟩⟩
    |at_ id =>
     have d:=F.at_ i id hb;have C:=H.heap.blk id
     cases y:lkB S.h id with
     |dead=>rw[y] at d; rw[show lkB _ i=_ from d]; trivial
     |cells c =>
      rw[y] at C;obtain⟨b,Z,e',f,r,B⟩:=C
      have hi:i<T.heap.length:=by rw[<-z]; exact DZ hb
      obtain⟨cs',E,K⟩:=Yq H.heap hH M (Ext.refl _) F i id c Z.toList hi (by rw[dW]; exact hb) y B;rw[E];exact⟨b,Z,e',(jO hb).trans f,r,K⟩
     |row t g fz xs =>
      rw[y] at d C
      cases fz with
      |true =>
       rw[show lkB _ i=_ from d];show CR w _ (.slice t) xs [_];rw[jO hb];exact CR.mono F.sub C
      |false =>
       rw[show lkB _ i=_ from d];obtain⟨base,cap,f,r,B⟩:=C;refine⟨base,cap,(jO hb).trans f,r,?_⟩;rcases B with B|⟨b,off,c,e',E,K,U,q7⟩
       ·exact .inl B
       ·refine .inr ⟨b,off,c,e',E,K,U,fun j x V=>?_⟩;obtain⟨us,q8,q9⟩:=q7 j x V;exact⟨us,CR.mono F.sub q8,q9⟩
     |map k u es =>
      rw[y] at d C;rw[show lkB _ i=_ from d];obtain⟨b,l,A,f,r,B,E⟩:=C;refine⟨b,l,A,(jO hb).trans f,r,B,fun j x V=>?_⟩;obtain⟨m,us,K,U,q7,q8⟩:=E j x V;exact⟨m,us,K,CR.mono F.sub U,CR.mono F.sub q7,q8⟩
     |fns es =>
      rw[y] at C;obtain⟨b,l,A,f,r,B⟩:=C
      have hi:i<T.heap.length:=by rw[<-z]; exact DZ hb
      obtain⟨es',E,K⟩:=TE hH M (Ext.refl _) F i id es l.toList hi (by rw[dW]; exact hb) y B;rw[E];exact⟨b,l,A,(jO hb).trans f,r,K⟩
     |iter s q =>
      rw[y] at d C;rw[show lkB _ i=_ from d];obtain⟨b,f,r⟩:=C;exact⟨b,(jO hb).trans f,r⟩
     |acc t xs =>
      rw[y] at d C;rw[show lkB _ i=_ from d];obtain⟨us,f,r,B,E⟩:=C;refine⟨us,(jO hb).trans f,by rw[jO hb]; exact r,B,?_⟩;rw[jO hb];exact Ghost.st _ _ _ _ _ _ E ⟨rfl,rfl,rfl,du _,fun b _ hn V=>hn (F.sub b V),fun b o ho _ _=>ho,fun b o ho _ _=>ho,fun _ _ _=>rfl⟩
  ·have Y:∀i,(lkB (D0 T.heap (rest M R)).1 i).live=true->Ĭ (νb M.bd ν i) b->∃id,jN M.bd i=some (.at_ id)/\(lkB S.h id).live=true/\Ĭ (ν id) b:=fun i hi J=>by
    cases hb:jN M.bd i with
    |none=>rw[F.out i (by simp[hb]) (by simp[hb])] at hi; cases hi
    |some x =>
     cases x with
     |open_=>rw[F.out i (by simp[hb]) (by simp[hb])] at hi; cases hi
     |new=>simp only[νb,hb] at J; cases J
     |at_ id =>
      refine⟨id,rfl,?_,by simpa[νb,hb] using J⟩;have d:=F.at_ i id hb
      cases W:lkB S.h id with
      |dead=>rw[W] at d; rw[show lkB _ i=_ from d] at hi; cases hi
      |cells=>rfl
      |map=>rfl
      |acc=>rfl
      |fns=>rfl
      |iter=>rfl
      |row t g fz xs =>
       cases fz with
       |false=>rfl
       |true=>rw[W] at d; rw[show lkB _ i=_ from d] at hi; cases hi
   obtain⟨id,f,r,B⟩:=Y i hi J;obtain⟨G,E,K,U⟩:=Y j hj hbj;have:=H.heap.inj id G b r K B U;subst this;exact F.inj i j id f E
 have L:∀i,i<pin->jN M.bd i=some (.at_ i):=fun i hi=>(eL.trans eH).bd i i (aeu hi c1);refine⟨νb M.bd ν,⟨H.defers,?_,fun i=>?_,hHR⟩,⟨rfl,rfl,rfl,du _,fun b _ hb=>⟨rfl,fun hb'=>hb (F.subL b hb')⟩,fun i hi=>?_⟩,by rw[I]; exact c1,fun i hi O=>?_⟩
 ·have:=H.len;simp only[dw,gg,J5];omega
 ·simp only[Uj];exact Yp H.heap hL M eH F (fun k=>a.tmps.getD k undef) (fun k=>H.tmps k) i
 ·have hb:=L i hi;have d:=F.at_ i i hb
  cases y:lkB S.h i with
  |dead=>trivial
  |cells c=>rw[y] at d; exact⟨d,jO hb⟩
  |row t g fz xs =>
   rw[y] at d
   cases fz with
   |true=>exact⟨g,true,xs,d,du _,fun _=>⟨jO hb,rfl⟩⟩
   |false =>
    have hg:=Uo c4 i hi t g xs y;exact⟨0,false,xs,d,by omega,fun _=>⟨jO hb,rfl⟩⟩
  |map k u es=>rw[y] at d; exact⟨⟨es,d⟩,jO hb⟩
  |acc t xs=>rw[y] at d; exact⟨xs,d⟩
  |fns es=>rw[y] at d; exact⟨d,jO hb⟩
  |iter s q=>rw[y] at d; exact⟨⟨q,d⟩,jO hb⟩
 ·have d:=F.at_ i i (L i hi);rw[O] at d;exact d
end
end Go.Am
end

noncomputable section
namespace Go.Am
variable [Globs] [Ghost]
section
variable {ρ:Type} {ν ν':Nat->Value} {h h':rT Blk} {w w':World} {P:Program}
def θ (w:World) (G:Nat->Prop) (t:Ty) (x:Val t) (v:Value):Prop:=∃us,CR w G t x us/\v=xj t us
def AT (w:World) (G:Nat->Prop):(l:rT Ty)->(t:Ty)->Val (tys t l)->rT Value->Prop
 |[],t,x,vs=>∃v,vs=[v]/\θ w G t x v
 |u::l,t,x,vs=>∃v b,vs=v::b/\θ w G t (x:Val t×Val (tys u l)).1 v/\AT w G l u (x:Val t×Val (tys u l)).2 b
def AL (w:World) (G:Nat->Prop):(l:rT Ty)->Val (tyL l)->rT Value->Prop
 |[],_,vs=>vs=[]
 |t::l,x,vs=>AT w G l t x vs
def RR (w:World) (G:Nat->Prop):(l:rT Ty)->Val (tyL l)->Value->Prop
 |[],_,u=>u=.tuple #[]
 |[t],x,u=>θ w G t x u
 |t::u'::l,x,u=>∃vs,u=.tuple vs/\AT w G (u'::l) t x vs.toList
def Ķ (P:Program) (f:Nat) (p:ì):Prop :=
 ∀(G:Nat->Prop) (x:Val (tyL p.ts)) (y:Val (tyL p.rs)),p.F x=some y->∀(w:World) (vals:rT Value),(∀b,G b->b<w.heap.size)->Globs.Φ w->AL w G p.ts x vals ->
  (∃fn c,P.funcs[f]?=some fn/\fn.body=some c) /\
  CallsIn Fence.wide 0 P f vals.toArray w fun e w'=>∃u,e=.returned u/\RR w' G p.rs y u/\(∀b,b<w.heap.size->w'.heap[b]?=w.heap[b]?)/\w.heap.size<=w'.heap.size/\w'.os=w.os/\w'.tape=w.tape/\w'.output=w.output
def WH {a:AV} {vs:rT AV} (e:ĝ a=some vs):mb a=vs:=by
 cases a<;>simp only[ĝ,Option.some.injEq,reduceCtorEq] at e<;>exact e
def zS {G:Nat->Prop} {t:Ty} {x:Val t} {a:AV} {v:Value} {vs:rT AV} (d:(Um a==t.isAgg)=true) (i:ĝ a=some vs) (j:VR ν h w a v)
 (r:∀c∈mb a,∀u,VR1 ν h w c u->VRs w G (ñ h c) u) (e:Ü t (vs.map (ñ h))=some x):θ w G t x v:=by
 have f:=j.cells i;have h2:ÿ (VRs w G) (vs.map (ñ h)) v.cells.toList:=ÿ.map_left (aux vs _ f fun c o u k=>r c (by rw[WH i]; exact o) u k.1);refine⟨_,ċ e h2,?_⟩
 cases ha:a.isAgg with
 |true =>
  cases a<;>try cases ha
  obtain⟨us,rfl,_⟩:=j
  have:t.isAgg=true:=by simpa[Um] using d
  simp[xj,this,Value.cells]
 |false =>
  have s:Um a=false:=by cases a<;>first|rfl|cases ha
  have m:t.isAgg=false:=by rw[s] at d; simpa using d
  have l:a.isTup=false:=by cases a<;>first|rfl|cases i
  have y:=(j.one ha l).oneCell i;simp[xj,m,Qr y]
where
 aux {w:World} {G:Nat->Prop} {ν:Nat->Value} {h:rT Blk} (vs:rT AV) (us:rT Value) (f:ÿ (VRc ν h w) vs us) (p:∀c∈vs,∀u,VRc ν h w c u->VRs w G (ñ h c) u):ÿ (fun c b=>VRs w G (ñ h c) b) vs us:=by
  induction vs generalizing us with
  |nil=>cases us with
   |nil=>trivial
   |cons=>exact f.elim
  |cons c vs q=>cases us with
   |nil=>exact f.elim
   |cons u us=>exact⟨p c (by simp) u f.1,q us f.2 fun c o u k=>p c (by simp[o]) u k⟩
def WV (H:HR ν h w) {G:Nat->Prop} {t:Ty} {x:Val t} {a:AV} {v:Value} (l:VR ν h w a v)
 (A:∀c∈mb a,∀u,VR1 ν h w c u->VRs w G (ñ h c) u) (hb:∀id cs,a=.box id 0->lkB h id=.cells cs->(∀b,Ĭ (ν id) b->¬G b)/\∀c∈cs,∀u,VR1 ν h w c u->VRs w G (ñ h c) u) (e:al7 h t a=some x):θ w G t x v:=by
 cases z:(match t with|.ptr _=>true|_=>false) with
 |false =>
  have f:(match Um a==t.isAgg with|true=>(match ĝ (acv h a) with|some cs=>Ü t cs|none=>none)|false=>none)=some x:=by
   cases t<;>first|exact e|cases z
  split at f<;>try (cases f; done)
  rename_i q
  split at f<;>try (cases f; done)
  rename_i cs d;obtain⟨vs,k,rfl⟩:=HH d;exact zS q k l A f
 |true =>
  cases t<;>try cases z
  rename_i u;simp only[al7] at e
  split at e<;>try (cases e; done)
  ·rename_i id
   split at e<;>try (cases e; done)
   rename_i cs B;obtain⟨K,b,k,h2,s⟩:=l.one rfl rfl;have C:=H.blk id;rw[B] at C;obtain⟨L,c,f,j,i,r⟩:=C;rw[h2] at j; cases j;obtain⟨J,d⟩:=hb id cs rfl B;have p:CR w G u x c.toList:=ċ e (ÿ.map_left (zS.aux cs _ r fun c I u E=>d c I u E.1));refine⟨[v],⟨b,0,c.toList,by rw[s],J b (by rw[h2]; rfl),å i,p,CellsAt.of_cells i⟩,rfl⟩
  ·rename_i t' y
   split at e<;>try (cases e; done)
   rename_i m _;subst m;cases e;have k:=A _ (by simp[mb]) v (l.one rfl rfl);obtain⟨b,o,us,h2,s,j,i,r⟩:=k;exact⟨[v],⟨b,o,us,by rw[h2]; rfl,s,j,i,r⟩,rfl⟩
def QK (H:HR ν h w) {G:Nat->Prop}:∀(l:rT Ty) (t:Ty) (x:Val (tys t l)) (as:rT AV) (vs:rT Value),ÿ (VR ν h w) as vs ->
 (∀a∈as,∀c∈mb a,∀u,VR1 ν h w c u->VRs w G (ñ h c) u)->(∀a∈as,∀id cs,a=.box id 0->lkB h id=.cells cs->(∀b,Ĭ (ν id) b->¬G b)/\∀c∈cs,∀u,VR1 ν h w c u->VRs w G (ñ h c) u)->WU h l t as=some x->AT w G l t x vs
 |[],t,x,[],vs,_,_,_,e=>by cases e
 |[],t,x,[a],vs,d,f,hb,e=>by
  obtain⟨v,rfl,k⟩:=d.one;exact⟨v,rfl,WV H k (f a (by simp)) (hb a (by simp)) e⟩
 |[],t,x,_::_::_,vs,_,_,_,e=>by cases e
 |u::l,t,x,[],vs,_,_,_,e=>by cases e
 |u::l,t,x,a::as,[],d,_,_,e=>d.elim
 |u::l,t,x,a::as,v::vs,d,f,hb,e=>by
  simp only[WU] at e
  split at e<;>try (cases e; done)
  rename_i y j
  split at e<;>try (cases e; done)
  rename_i z i;cases e;exact⟨v,vs,rfl,WV H d.1 (f a (by simp)) (hb a (by simp)) j,QK H l u z as vs d.2 (fun a ha=>f a (by simp[ha])) (fun a ha=>hb a (by simp[ha])) i⟩
def Hy (H:HR ν h w) {G:Nat->Prop} {l:rT Ty} {x:Val (tyL l)} {as:rT AV} {vs:rT Value} (d:ÿ (VR ν h w) as vs)
 (f:∀a∈as,∀c∈mb a,∀u,VR1 ν h w c u->VRs w G (ñ h c) u) (hb:∀a∈as,∀id cs,a=.box id 0->lkB h id=.cells cs->(∀b,Ĭ (ν id) b->¬G b)/\∀c∈cs,∀u,VR1 ν h w c u->VRs w G (ñ h c) u) (e:Ec h l as=some x):AL w G l x vs:=by
 cases l with
 |nil=>cases as with
  |nil=>exact d.nil_left
  |cons=>cases e
 |cons t l=>exact QK H l t x as vs d f hb e
def θ.mono {G G':Nat->Prop} (d:∀b,G' b->G b) {t:Ty} {x:Val t} {v:Value} (c:θ w G t x v):θ w G' t x v:=by
 obtain⟨us,e,h2⟩:=c;exact⟨us,CR.mono d e,h2⟩
def II {av f:Nat->Prop}:∀{t:Ty} {x:Val t} {us:rT Value},(flat t x).all Bs=true->CR w av t x us->CR w f t x us
 |.unit,_,_,_,d=>d
 |.bool,_,_,_,d=>d
 |.int _,_,_,_,d=>d
 |.str,_,_,_,d=>d
 |.slice _,_,_,c,_=>by simp[flat,Bs] at c
 |.map _ _,_,_,c,_=>by simp[flat,Bs] at c
 |.ptr _,_,_,c,_=>by simp[flat,Bs] at c
 |.pair a b,x,us,c,d=>by
  simp only[flat,List.all_append,dt] at c;obtain⟨u1,i,e,j,h2⟩:=d;exact⟨u1,i,e,II c.1 j,II c.2 h2⟩
def aiO {t:Ty} {x:Val t} (b:plain (enc t x)=true):(flat t x).all Bs=true:=by
 cases t<;>first|exact b|(simp only[enc,plain,Bs] at b; simp[flat,Bs])|(simp[enc,plain,Bs] at b)
def θ.plain {G G':Nat->Prop} {t:Ty} {x:Val t} {v:Value} (c:plain (enc t x)=true) (b:θ w G t x v):θ w G' t x v:=by
 obtain⟨us,d,h2⟩:=b;exact⟨us,II (aiO c) d,h2⟩
def AT.plain {G G':Nat->Prop}:∀{l:rT Ty} {t:Ty} {x:Val (tys t l)} {vs:rT Value},(aiP l t x).all Go.Am.plain=true->AT w G l t x vs->AT w G' l t x vs
 |[],t,x,vs,b,⟨v,c,h2⟩=>⟨v,c,h2.plain (by simpa[aiP] using b)⟩
 |u::l,t,x,vs,b,⟨v,vs',c,h2,d⟩=>by
  simp only[aiP,fX,dt] at b;exact⟨v,vs',c,h2.plain b.1,AT.plain b.2 d⟩
def XG {v:AV} (b:v.isTup=false):MK v=Go.Am.plain v:=by cases v<;>first|rfl|cases b
def IV {t:Ty} {x:Val t}:(enc t x).isTup=false:=by cases t<;>rfl
def RR.plain {G G':Nat->Prop}:∀{l:rT Ty} {x:Val (tyL l)} {u:Value},MK (aaD l x)=true->RR w G l x u->RR w G' l x u
 |[],_,_,_,h=>h
 |[t],x,u,b,h=>θ.plain ((XG (IV (t:=t) (x:=x))).symm.trans b) h
 |t::u'::l,x,u,b,⟨vs,c,h2⟩=>⟨vs,c,h2.plain b⟩
def θ.VR {t:Ty} {x:Val t} {v:Value} (b:θ w (Av ν h) t x v):VR ν h w (enc t x) v:=by
 obtain⟨us,c,rfl⟩:=b;exact Kc c
def AT.VR:∀{l:rT Ty} {t:Ty} {x:Val (tys t l)} {vs:rT Value},AT w (Av ν h) l t x vs->ÿ (VR ν h w) (aiP l t x) vs
 |[],t,x,_,⟨v,rfl,h2⟩=>⟨h2.VR,trivial⟩
 |u::l,t,x,_,⟨v,vs',rfl,h2,b⟩=>⟨h2.VR,AT.VR b⟩
def Qf:∀{l:rT Ty} {t:Ty} {x:Val (tys t l)},∀a∈aiP l t x,a.isTup=false
 |[],t,x,a,b=>by simp only[aiP,dB] at b; rw[b]; exact IV
 |u::l,t,x,a,b=>by
  simp only[aiP,dE] at b;rcases b with rfl|b
  ·exact IV
  ·exact Qf a b
def ÿ.VR2:∀{as:rT AV} {vs:rT Value},ÿ (VR ν h w) as vs->(∀a∈as,a.isTup=false)->ÿ (VR2 ν h w) as vs
 |[],[],_,_=>trivial
 |a::as,v::vs,b,c=>⟨by rw[<-vZ (c a (by simp))]; exact b.1,ÿ.VR2 b.2 fun a ha=>c a (by simp[ha])⟩
 |[],_::_,b,_=>b.elim
 |_::_,[],b,_=>b.elim
def RR.VR:∀{l:rT Ty} {x:Val (tyL l)} {u:Value},RR w (Av ν h) l x u->VR ν h w (aaD l x) u
 |[],_,_,h=>by cases h; exact⟨#[],rfl,trivial⟩
 |[t],x,u,h=>θ.VR h
 |t::u'::l,x,u,⟨vs,b,h2⟩=>⟨vs,b,ÿ.VR2 h2.VR Qf⟩
def HB (P:Program) (g:Nat) (ν:Nat->Value) (h:rT Blk) (w:World) (vals:rT Value) (K:AV->rT Blk->rF ρ) (r:ρ):Prop :=
 (∃fn c,P.funcs[g]?=some fn/\fn.body=some c) /\
 CallsIn Fence.wide 0 P g vals.toArray w fun e w'=>∃ν' h' v u,e=.returned u/\VR ν' h' w' v u/\HR ν' h' w'/\Ev h.length ν h w ν' h' w'/\h.length<=h'.length/\(∀j,j<h.length->lkB h j=.dead->lkB h' j=.dead)/\K v h'=some r
def adE {c:AV} {u:Value}:∀{as:rT AV} {h:rT Blk},HR ν h w->c∈as->MX c=true->VR1 ν h w c u->VRs w (Av ν (Bj h as)) (ñ h c) u
 |[],_,_,b,_,_=>by cases b
 |a::as,h,H,b,e,d=>by
  obtain⟨i,f,j⟩:=PV H a;rcases dE.1 b with rfl|b
  ·exact VRs.mono ((D2 as f).2.2) (PU H d e)
  ·have:=adE (as:=as) f b e (d.ev i)
   rwa [HI] at this
def aeF {f:Nat} {p:ì} (V:Ķ P f p) {b:Bool} {d:rT AV} {K:AV->rT Blk->rF ρ} {r:ρ} (e:Vd b p h d K=some r) (H:HR ν h w) {vals:rT Value} (E:ÿ (VR ν h w) d vals):HB P f ν h w vals K r:=by
 unfold Vd at e
 split at e<;>try (cases e; done)
 rename_i x C;simp only[Â] at e
 split at e<;>try (cases e; done)
 rename_i y T
 -- the call, with what may not be touched
 have call:∀(G:Nat->Prop),(∀b,G b->b<w.heap.size)->AL w G p.ts x vals->∀(h':rT Blk),HR ν h' w->Ev h.length ν h w ν h' w->h.length<=h'.length->(∀j,j<h.length->lkB h j=.dead->lkB h' j=.dead) ->
  (∀w' u,RR w' G p.rs y u->RR w' (Av ν h') p.rs y u)->K (aaD p.rs y) h'=some r->HB P f ν h w vals K r:=by
  intro G Z N h' B ev L q I Y;obtain⟨h1,h2⟩:=V G x y T w vals Z H.glob N;refine⟨h1,h2.mono fun e w' U=>?_⟩;obtain⟨u,rfl,g1,g2,g3,g4,g5,g6⟩:=U;obtain⟨O,R⟩:=B.grow g2 g3 g4 g5 g6 h.length;exact⟨ν,h',_,u,rfl,(I w' u g1).VR,R,ev.trans O (du _),L,q,Y⟩
 split at e
 ·rename_i J;exact call Ghost.G (fun b hb=>H.ghlt b hb) (Hy H E (fun a _ c _ u m=>SX H m) (fun _ _ id cs _ L=>⟨fun b hb W=>H.ghne id b (by rw[L]; rfl) hb W,fun c _ u m=>SX H m⟩) C) h H (Ev.refl _ _ _ _) (du _) (fun _ _ hd=>hd) (fun w' u v=>v.plain J) e
 ·split at e
  ·rename_i z
   have i:∀a∈d,QM a=false:=fun a ha=>by have:=dM.1 z a ha; simpa using this
   refine call (Av ν h) (fun b hb=>H.ltA hb) (Hy H E (fun a ha c k u m=>?_) (fun a ha id cs o _=>?_) C) h H (Ev.refl _ _ _ _) (du _) (fun _ _ hd=>hd) (fun w' u v=>v) e
   ·have s:Ee c=false:=by
     have:=i a ha
     cases a<;>first
      |(simp only[mb,dB] at k; subst k; exact this)
      |(simp only[mb] at k; simp only[QM,fB] at this; simpa using this c k)
    have:ñ h c=c:=by cases c<;>first|rfl|cases s
    rw[this]; exact m.data
   ·subst o; cases i _ ha
  ·split at e<;>try (cases e; done)
   rename_i A;simp only[Bool.or_eq_false_iff,ft] at A;have l:∀a∈d,aho a=true:=dM.1 A.2;obtain⟨ev,B,S⟩:=D2 (d.flatMap mb) H;refine call (Av ν (Bj h (d.flatMap mb))) (fun b hb=>B.ltA hb) (Hy H E (fun a ha c k u m=>?_) (fun a ha id cs o _=>?_) C) _ B ev (by rw[Ż]; exact du _) (fun _ _ hd=>PS _ hd) (fun w' u v=>v) e
   ·refine adE H (dY.2 ⟨a,ha,k⟩) ?_ m;have:=l a ha
    have s:ahn c=true:=by
     cases a<;>first
      |(simp only[mb,dB] at k; subst k; exact this)
      |(simp only[mb] at k; simp only[aho,dM] at this; exact this c k)
    cases c<;>first|rfl|cases s
   ·subst o; cases l _ ha
end
end Go.Am
end

noncomputable section
namespace Go.Am
section
variable {w w':World} {X X':Nat->Prop}
structure amm (w:World) (X:Nat->Prop) (w':World) (X':Nat->Prop):Prop where
 size:w.heap.size<=w'.heap.size
 av:∀b,b<w.heap.size->¬X b->¬X' b
 dat:∀(b:Nat) (o:Obj),w.heap[b]?=some o->LX o=true->¬X b->w'.heap[b]?=some o
def alH {w:World} {a:Addr} {v:Value} (h:w.cell? a=some v):∃o,w.heap[a.block]?=some o/\LX o=true/\∀w':World,w'.heap[a.block]?=some o->w'.cell? a=some v:=by
 unfold World.cell? at h
 split at h<;>try (cases h; done)
 rename_i c e r hb;exact⟨_,hb,rfl,fun w' h'=>by unfold World.cell?; rw[h']; exact h⟩
def CellsAt.kx (K:amm w X w' X') {b off:Nat} {vs:rT Value} (hb:¬X b) (h:CellsAt w b off vs):CellsAt w' b off vs:=fun j v c=>by
 obtain⟨o,e,h2,d⟩:=alH (h j v c);exact d w' (K.dat b o e h2 hb)
def CR.kx (K:amm w X w' X'):∀{t:Ty} {x:Val t} {vs:rT Value},CR w X t x vs->CR w' X' t x vs
 |.unit,_,_,h=>h
 |.bool,_,_,h=>h
 |.int _,_,_,h=>h
 |.str,_,_,h=>h
 |.slice t,xs,vs,h=>by
  obtain⟨base,cap,e,q,h⟩:=h;refine⟨base,cap,e,q,?_⟩;rcases h with h|⟨b,off,hb,c,d,h⟩
  ·exact .inl h
  ·refine .inr ⟨b,off,hb,K.av b d c,dD d K.size,fun i x j=>?_⟩;obtain⟨us,f,h2⟩:=h i x j;exact⟨us,CR.kx K f,h2.kx K c⟩
 |.map k v,es,vs,h=>by
  obtain⟨r,e,h⟩:=h;refine⟨r,e,?_⟩;rcases h with h|⟨b,entries,clock,p,c,l,o,h⟩
  ·exact .inl h
  ·refine .inr ⟨b,entries,clock,p,K.av b (å l) c,K.dat b _ l rfl c,o,fun i x j=>?_⟩;obtain⟨m,us,f,h2,u,s⟩:=h i x j;exact⟨m,us,f,CR.kx K h2,CR.kx K u,s⟩
 |.ptr t,x,vs,h=>by
  obtain⟨b,off,us,e,c,d,f,h2⟩:=h;exact⟨b,off,us,e,K.av b d c,dD d K.size,CR.kx K f,h2.kx K c⟩
 |.pair a b,x,vs,h=>by
  obtain⟨us,ws,e,f,h2⟩:=h;exact⟨us,ws,e,CR.kx K f,CR.kx K h2⟩
end
section
variable [Globs] {g:Ghost} {G':Nat->Prop} {D:rT Deferred} {Q:rF Nat} {M:Nat} {ν:Nat->Value} {h:rT Blk} {w w':World}
structure iL (g:Ghost) (ν:Nat->Value) (h:rT Blk) (w:World) (G':Nat->Prop) (w':World):Prop where
 os:w'.os=w.os
 tape:w'.tape=w.tape
 output:w'.output=w.output
 size:w.heap.size<=w'.heap.size
 av:∀b,b<w.heap.size->¬@Av _ g ν h b->¬G' b
 dat:∀(b:Nat) (o:Obj),w.heap[b]?=some o->LX o=true->(@Av _ g ν h b->qD ν h b)->w'.heap[b]?=some o
 nd:∀(b:Nat) (o:Obj),w.heap[b]?=some o->LX o=false->b<g.B->w'.heap[b]?=some o
 gl:Globs.Φ w->∀b,b<Globs.n->w'.heap[b]?=w.heap[b]?
def iL.kx (K:iL g ν h w G' w'):amm w (@Av _ g ν h) w' (@Av _ (g.re G' D Q M) ν h) :=
 ⟨K.size,fun b hb c d=>d.elim (fun f=>c (.inl f)) (K.av b hb c),fun b o hb e c=>K.dat b o hb e fun d=>absurd d c⟩
def VR0.step (K:iL g ν h w G' w') {a:AV} {v:Value} (c:@VR0 _ g ν h w a v):@VR0 _ (g.re G' D Q M) ν h w' a v:=by
 cases a with
 |slc t xs=>exact CR.kx (iL.kx (D:=D) (Q:=Q) (M:=M) K) (t:=.slice t) c
 |mp k t es=>exact CR.kx (iL.kx (D:=D) (Q:=Q) (M:=M) K) (t:=.map k t) c
 |eptr t x off =>
  obtain⟨b,o,us,j,h2,e,i,f⟩:=c;have d:=iL.kx (D:=D) (Q:=Q) (M:=M) K;exact⟨b,o,us,j,d.av b e h2,dD e K.size,CR.kx d i,f.kx d h2⟩
 |_=>exact c
def VR1.step (K:iL g ν h w G' w') {a:AV} {v:Value} (b:@VR1 _ g ν h w a v):@VR1 _ (g.re G' D Q M) ν h w' a v:=by
 cases c:a.isFn with
 |true =>
  cases a<;>try cases c
  obtain⟨fs,cs,e,h2,d⟩:=b;exact⟨fs,cs,e,h2.mono fun _ _=>VR0.step K,d.mono fun _ _=>VR0.step K⟩
 |false =>
  rw[@wU _ (g.re G' D Q M) _ _ _ _ _ c];rw[@wU _ g _ _ _ _ _ c] at b;exact VR0.step K b
def VRc.step (K:iL g ν h w G' w') {a:AV} {v:Value} (b:@VRc _ g ν h w a v):@VRc _ (g.re G' D Q M) ν h w' a v:=⟨VR1.step K b.1,b.2⟩
def VR2.step (K:iL g ν h w G' w') {a:AV} {v:Value} (b:@VR2 _ g ν h w a v):@VR2 _ (g.re G' D Q M) ν h w' a v:=by
 cases c:a.isAgg with
 |true =>
  cases a<;>try cases c
  obtain⟨vs,d,h2⟩:=b;exact⟨vs,d,h2.mono fun _ _=>VRc.step K⟩
 |false =>
  rw[@zU _ (g.re G' D Q M) _ _ _ _ _ c];rw[@zU _ g _ _ _ _ _ c] at b;exact VR1.step K b
def VR.step (K:iL g ν h w G' w') {a:AV} {v:Value} (b:@VR _ g ν h w a v):@VR _ (g.re G' D Q M) ν h w' a v:=by
 cases c:a.isTup with
 |true =>
  cases a<;>try cases c
  obtain⟨vs,d,h2⟩:=b;exact⟨vs,d,h2.mono fun _ _=>VR2.step K⟩
 |false =>
  rw[@vZ _ (g.re G' D Q M) _ _ _ _ _ c];rw[@vZ _ g _ _ _ _ _ c] at b;exact VR2.step K b
def HR.step (K:iL g ν h w G' w') (J:∀b,G' b->b<w'.heap.size) (I:∀b,qD ν h b->¬G' b) (H:@HR _ g ν h w):@HR _ (g.re G' D Q M) ν h w':=by
 have E:amm w (@Av _ g ν h) w' (@Av _ (g.re G' D Q M) ν h):=iL.kx K;have live:∀(id b:Nat) (o:Obj),(lkB h id).live=true->Ĭ (ν id) b->w.heap[b]?=some o->LX o=true->w'.heap[b]?=some o:=fun id b o u G hb hd=>K.dat b o hb hd fun _=>⟨id,u,G⟩;refine @HR.mk _ (g.re G' D Q M) ν h w' (fun id=>?_) (@HR.inj _ g _ _ _ H) J (fun id b u hb=>I b ⟨id,u,hb⟩) (Globs.keep _ _ (@HR.glob _ g _ _ _ H) fun b hb=>K.gl (@HR.glob _ g _ _ _ H) b hb) (@HR.globL _ g _ _ _ H);have p:=@HR.blk _ g _ _ _ H id;have d:=live id
 cases u:lkB h id with
 |dead=>trivial
 |cells cs =>
  rw[u] at p d;obtain⟨b,c,e,j,h2,r⟩:=p;exact⟨b,c,e,j,d b _ rfl (by rw[j]; rfl) h2 rfl,r.mono fun _ _=>VRc.step K⟩
 |row t g' fz xs =>
  rw[u] at p d
  cases fz with
  |true=>exact CR.kx E (t:=.slice t) p
  |false =>
   obtain⟨base,cap,j,h2,r⟩:=p;refine⟨base,cap,j,h2,?_⟩;rcases r with r|⟨b,off,c,e,z,L,T,S⟩
   ·exact .inl r
   ·have C:=d b _ rfl (by rw[j,z]; rfl) L rfl;refine .inr ⟨b,off,c,e,z,C,T,fun i x B=>?_⟩;obtain⟨us,A,y⟩:=S i x B;exact⟨us,CR.kx E A,y.keep (C.trans L.symm)⟩
 |map k v es =>
  rw[u] at p d;obtain⟨b,f,l,j,h2,r,z⟩:=p;refine⟨b,f,l,j,d b _ rfl (by rw[j]; rfl) h2 rfl,r,fun i x B=>?_⟩;obtain⟨m,us,A,y,O,N⟩:=z i x B;exact⟨m,us,A,CR.kx E y,CR.kx E O,N⟩
 |fns es =>
  rw[u] at p d;obtain⟨b,f,l,j,h2,r⟩:=p;exact⟨b,f,l,j,d b _ rfl (by rw[j]; rfl) h2 rfl,r.mono fun _ _ q=>⟨q.1,q.2.1,VR1.step K q.2.2⟩⟩
 |iter s q =>
  rw[u] at p d;obtain⟨b,j,h2,r⟩:=p;exact⟨b,j,d b _ rfl (by rw[j]; rfl) h2 rfl,r⟩
 |acc t xs =>
  rw[u] at p d;obtain⟨us,j,h2,r,z⟩:=p;refine⟨us,j,fun b hb=>?_,r,?_⟩
  ·obtain⟨o,A,y⟩:=h2 b hb;exact⟨o,d b o rfl hb A y,y⟩
  ·refine g.st _ _ _ _ _ _ z ⟨K.os,K.tape,K.output,K.size,E.av,fun b o hb G B=>K.dat b o hb G fun R=>⟨id,by rw[u]; rfl,B R⟩,K.nd,K.gl⟩
def HR.re (H:@HR _ g ν h w):@HR _ (g.re g.G D Q M) ν h w:=@HR.mk _ (g.re g.G D Q M) ν h w (@HR.blk _ g ν h w H) (@HR.inj _ g ν h w H) (@HR.ghlt _ g ν h w H) (@HR.ghne _ g ν h w H) (@HR.glob _ g ν h w H) (@HR.globL _ g ν h w H)
def HR.er (H:@HR _ (g.re g.G D Q M) ν h w):@HR _ g ν h w:=@HR.mk _ g ν h w (@HR.blk _ (g.re g.G D Q M) ν h w H) (@HR.inj _ (g.re g.G D Q M) ν h w H) (@HR.ghlt _ (g.re g.G D Q M) ν h w H) (@HR.ghne _ (g.re g.G D Q M) ν h w H) (@HR.glob _ (g.re g.G D Q M) ν h w H) (@HR.globL _ (g.re g.G D Q M) ν h w H)
def iL.less {G':Nat->Prop} (e:∀b,G' b->g.G b):iL g ν h w G' w:=⟨rfl,rfl,rfl,du _,fun b _ c d=>c (.inr (e b d)),fun b o hb _ _=>hb,fun b o hb _ _=>hb,fun _ _ _=>rfl⟩
def iL.nds (d:w'.os=w.os) (j:w'.tape=w.tape) (l:w'.output=w.output) (k:w.heap.size<=w'.heap.size) (f:∀(b:Nat) (o:Obj),w.heap[b]?=some o->LX o=true\/b<g.B->w'.heap[b]?=some o):iL g ν h w g.G w' :=
 ⟨d,j,l,k,fun b _ m p=>m (.inr p),fun b o hb hd _=>f b o hb (.inl hd),fun b o hb _ e=>f b o hb (.inr e),fun c b hb=>by obtain⟨o,i,h2⟩:=Globs.dat w c b hb; rw[f b o i (.inl h2),i]⟩
end
end Go.Am
end

noncomputable section
namespace Go.Am
variable [Globs] [Ghost]
section
variable {ρ:Type} {ν ν':Nat->Value} {h h':rT Blk} {w w':World} {P:Program}
def Tx {v b:AV} (e:akX v=some b):b=v/\v.isTup=false:=by
 cases v<;>simp only[akX,Option.some.injEq,reduceCtorEq] at e<;>exact⟨e.symm,rfl⟩
def aez {S:St} {a:Act} (H:Sim ν S a w) {rv:ResultVar} {v:AV} (e:aaV P S.h S.t rv=some v) :
 ∃u,(match rv with|.tmp t=>(pure (a.tmps.getD t undef):Sem Value)|.cell x t=>do loadVar t (<-asAddr (a.tmps.getD x undef))).run P w=.ok u w/\VR2 ν S.h w v u:=by
 cases rv with
 |tmp i =>
  obtain⟨rfl,d⟩:=Tx e;have:=H.tmps i;rw[vZ d] at this;exact⟨_,rfl,this⟩
 |cell x t =>
  simp only[aaV] at e
  split at e<;>try (cases e; done)
  rename_i j f;obtain⟨rfl,d⟩:=Tx e;obtain⟨u,b,h2⟩:=ah8 H.heap f (H.tmps x);rw[vZ d] at h2;refine⟨u,?_,h2⟩;simp only[Instr.loadAt] at b
  cases c:a.tmps.getD x undef with
  |pointer p =>
   rw[c] at b
   cases p with
   |none=>simp[Instr.sureAddr] at b
   |some k =>
    show(do loadVar t (<-asAddr (a.tmps.getD x undef)):Sem Value).run P w=_;rw[c];simpa[Instr.sureAddr,asAddr] using b
  |_=>rw[c] at b; simp[Instr.sureAddr] at b
def S9 {S:St} {a:Act} (H:Sim ν S a w):∀{rs:rT ResultVar} {vs:rT AV},MG P S.h S.t rs=some vs ->
 ∃us:rT Value,(rs.mapM (m:=Sem) fun|.tmp t=>pure (a.tmps.getD t undef)|.cell x t=>do loadVar t (<-asAddr (a.tmps.getD x undef))).run P w=.ok us w/\ÿ (VR2 ν S.h w) vs us
 |[],vs,e=>by cases e; exact⟨[],rfl,trivial⟩
 |rv::rs,vs,e=>by
  simp only[MG] at e
  split at e<;>try (cases e; done)
  rename_i v d
  split at e<;>try (cases e; done)
  rename_i c b;cases e;obtain⟨u,j,h2⟩:=aez H d;obtain⟨us,i,f⟩:=S9 H b;refine⟨u::us,?_,h2,f⟩;simp only[List.mapM_cons,Sem.run_bind,Sem.run_pure];rw[j];simp only[Result.andThen_ok];rw[i];rfl
def VR2.up {v:AV} {u:Value} (b:VR2 ν h w v u):VR ν h w v u:=by
 cases c:v.isTup with
 |true =>
  cases v<;>try cases c
  exact b.elim
 |false=>rw[vZ c]; exact b
def S8 {S:St} {a:Act} {fn:Func} {v:AV} (H:Sim ν S a w) (e:mQ P fn S=some v):∃u,(results fn a.tmps).run P w=.ok u w/\VR ν S.h w v u:=by
 unfold mQ at e
 cases c:MG P S.h S.t fn.results.toList with
 |none=>rw[c] at e; cases e
 |some vs =>
  obtain⟨us,d,h2⟩:=S9 H c
  have b:(results fn a.tmps).run P w=.ok (if h:us.toArray.size=1 then us.toArray[0] else .tuple us.toArray) w:=by
   unfold results;rw[Sem.run_bind,Array.mapM_eq_mapM_toList,Sem.run_map]
   erw [d]
   rfl
  rw[c] at e
  rcases vs with _|⟨x,_|⟨y,l⟩⟩<;>rcases us with _|⟨u,_|⟨u',m⟩⟩
  ·cases e; exact⟨_,b,⟨#[],by simp,trivial⟩⟩
  ·exact h2.elim
  ·exact h2.elim
  ·exact h2.elim
  ·cases e; exact⟨_,b,h2.1.up⟩
  ·exact h2.2.elim
  ·exact h2.elim
  ·exact h2.2.elim
  ·cases e; exact⟨_,b,⟨(u::u'::m).toArray,by simp,h2⟩⟩
def ÿ.lk {R:AV->Value->Prop} (b:∀u,R .any u):∀{l:rT AV} {m:rT Value} (i:Nat),ÿ R l m->R (Am.lk l i) (m.getD i undef)
 |[],[],i,_=>b _
 |_::_,_::_,0,h=>h.1
 |_::_,_::_,i+1,h=>by simpa[akh,aki,akg] using ÿ.lk b i h.2
 |[],_::_,_,h=>h.elim
 |_::_,[],_,h=>h.elim
def Wy (h:Ghost.Q=none):fen=Fence.wide:=by
 unfold fen;rw[h];rfl
omit [Ghost] in
def nM {F:Fence} {n:Nat} {fn:Func} {tmps:Array Value} {R:Ending->World->Prop}:∀(ms:rT Nat) (w:World),ms.Nodup->(∀k∈ms,w.heap[k]?=some (.deferred (some []))) ->
 (∀w':World,w'.heap.size=w.heap.size->w'.os=w.os->w'.tape=w.tape->w'.output=w.output->(∀b,b∉ms->w'.heap[b]?=w.heap[b]?)->LeavesIn F n P fn tmps R [] .returning w')->LeavesInM F n P fn tmps R (ms.map mk1) .returning w
 |[],w,_,_,h=>h w rfl rfl rfl rfl fun _ _=>rfl
 |k::ms,w,p,c,h=>by
  refine⟨by simp,.inl ⟨k,_,rfl,run_takeDeferred (c k (.head _)),?_⟩⟩;obtain⟨r,h2⟩:=List.nodup_cons.1 p;refine nM ms _ h2 (fun j d=>?_) fun w' o m l i f=>h w' (by rw[o]; simp[World.putObj]) m l i fun b hb=>?_
  ·rw[World.putObj_heap_other (fun e=>r (by rw[<-e]; exact d))];exact c j (.tail _ d)
  ·rw[f b fun q=>hb (.tail _ q)];exact World.putObj_heap_other fun e=>hb (by rw[e]; exact .head _)
omit [Ghost] in
def vQ {g:Ghost} {E:Env ρ} {call:rT Nat->Bool->Nat->rT AV->rT Blk->(AV->rT Blk->rF ρ)->rF ρ} {N:Nat} (hE:∀M,@jM _ (g.re g.G [] none M) ρ E N call) (hD:∀M,@qB _ (g.re g.G [] none M) ρ E N call) {path:rT Nat} (s:path.length+2=N) {f:Nat} {d:rT AV} {K:AV->rT Blk->rF ρ} {r:ρ}
 (hL:∀M fn c,E.P.funcs[f]?=some fn->fn.body=some c->∀x∈Ø 0 c,@kT _ (g.re g.G [] none M) ρ E path f x.1 x.2)
 (e:su E call path f d h K=some r) {vals:rT Value} (H:@HR _ g ν h w) (hB:g.B<=w.heap.size) (p:ÿ (@VR _ g ν h w) d vals) :
 (∃fn c,E.P.funcs[f]?=some fn/\fn.body=some c) /\
 CallsIn Fence.wide 0 E.P f vals.toArray w fun e w'=>∃ν' h' v u,e=.returned u/\@VR _ g ν' h' w' v u/\@HR _ g ν' h' w'/\Ev h.length ν h w ν' h' w'/\h.length<=h'.length/\(∀j,j<h.length->lkB h j=.dead->lkB h' j=.dead)/\K v h'=some r:=by
 rw[afF] at e
 split at e<;>try (cases e; done)
 rename_i fn y
 split at e<;>try (cases e; done)
 rename_i c hc;refine⟨⟨fn,c,y,hc⟩,?_⟩
 letI g':Ghost:=g.re g.G [] none w.heap.size
 refine callsIn_of_wp_marks y hc trivial ?_;have C:=p.length
 have hS:Sim ν {t:=d++List.replicate (fn.ntmps-d.length) .any,h:=h} {tmps:=vals.toArray++Array.replicate (fn.ntmps-vals.toArray.size) undef,defers:=[]} w:=by
  refine⟨⟨⟨[],rfl,fI,fun _ h=>(by cases h)⟩,fun l I=>(by cases I),hB,du _⟩,by simp[C],fun i=>?_,HR.re H⟩;simp only[Uj];rcases dV i d.length with hi|hi
  ·have:=ÿ.lk (R:=@VR _ g ν h w) (fun _=>trivial) i p
   have W:i<vals.length:=by omega
   have h2:(vals.toArray++Array.replicate (fn.ntmps-vals.toArray.size) undef).getD i undef=vals.getD i undef:=by
    simp[dT,fK,W]
   rw[h2]; exact this
  ·rw[alg _ _ hi]; trivial
 have J:=qr (hE _) (hD _) s c 0 _ _ ν _ w (hL _ fn c y hc) e hS (du _);rw[Wy rfl] at J;refine wpIn_mono J fun x S w' ha=>?_;obtain⟨ν',O,A,h2,h3,h4,m⟩:=ha
 have L:∀v,mQ E.P fn O=some v->K v O.h=some r->LeavesInM Fence.wide 0 E.P fn S.tmps (fun e w'=>∃ν' h' v u,e=.returned u/\@VR _ g ν' h' w' v u/\@HR _ g ν' h' w'/\Ev h.length ν h w ν' h' w'/\h.length<=h'.length/\(∀j,j<h.length->lkB h j=.dead->lkB h' j=.dead)/\K v h'=some r) S.defers .returning w':=by
  intro v W hk;obtain⟨⟨ms,m1,m2,V⟩,_,m4,m5⟩:=A.defers;rw[show S.defers=ms.map mk1 from m1.trans (dO _)];refine nM ms w' m2 (fun k hk=>(V k hk).1) fun T q1 q2 q3 q4 q5=>?_
  have Z:∀(b:Nat) (o:Obj),w'.heap[b]?=some o->LX o=true\/b<g'.B->T.heap[b]?=some o:=fun b o hb hd=>by
   have z:b∉ms:=fun Y=>by
    obtain⟨m6,U⟩:=V b Y;rw[m6] at hb; cases hb;rcases hd with hd|hd
    ·cases hd
    ·have:g'.B<=w.heap.size:=hB;have U:w.heap.size<=b:=U;omega
   rw[q5 b z]; exact hb
  have KG:iL g' ν' O.h w' g'.G T:=iL.nds q2 q3 q4 (by omega) Z;have q:Sim ν' O {S with defers:=[]} T:=⟨⟨⟨[],rfl,fI,fun _ h=>(by cases h)⟩,fun l I=>(by cases I),hB,by rw[q1]; exact m5⟩,A.len,fun i=>VR.step (g:=g') (D:=[]) (Q:=none) (M:=w.heap.size) KG (A.tmps i),HR.step (g:=g') (D:=[]) (Q:=none) (M:=w.heap.size) KG (fun b hb=>by have:=A.heap.ghlt b hb; omega) (fun b ⟨id,I,ho⟩=>A.heap.ghne id b I ho) A.heap⟩;obtain⟨u,r1,r2⟩:=S8 q W;refine⟨u,r1,ν',O.h,v,u,rfl,r2,HR.er q.heap,⟨q2.trans h2.os,q3.trans h2.tape,q4.trans h2.output,by rw[q1]; exact h2.size,fun b hb hn=>?_,h2.blk⟩,h3,h4,hk⟩;obtain⟨e1,e2⟩:=h2.keep b hb hn;refine⟨?_,e2⟩
  have z:b∉ms:=fun Y=>by
   have U:w.heap.size<=b:=(V b Y).2;omega
  rw[q5 b z]; exact e1
 cases x with
 |normal =>
  simp only at m
  split at m<;>try (cases m; done)
  exact L _ ‹_› m
 |ret =>
  simp only at m
  split at m<;>try (cases m; done)
  exact L _ ‹_› m
 |exit id=>cases m
 |goto l=>cases m
 |panic ch=>cases m
 |outgrown=>cases m
def aau (P:Program) (f:Nat) (X:rT Blk->rT AV->(AV->rT Blk->rF ρ)->rF ρ):Prop :=
 ∀(h:rT Blk) (b:rT AV) (K:AV->rT Blk->rF ρ) (r:ρ),X h b K=some r->∀ν w vals,HR ν h w->ÿ (VR ν h w) b vals->HB P f ν h w vals K r
structure Bm (E:Env ρ):Prop where
 pure:∀f p,E.pure f=some p->Ķ E.P f p
 sort:∀f,E.sort f=true->∀(h:rT Blk) (x:AV) (K:AV->rT Blk->rF ρ) (r:ρ),U8 h x K=some r->∀ν w u,HR ν h w->VR ν h w x u->HB E.P f ν h w [u] K r
 compact:∀f,E.compact f=true->∀(h:rT Blk) (x:AV) (K:AV->rT Blk->rF ρ) (r:ρ),o9 h x K=some r->∀ν w u,HR ν h w->VR ν h w x u->HB E.P f ν h w [u] K r
 plain : ∀ (f : Nat) (fn : Func), E.P.funcs[f]? = some fn -> (fn.name == "runtime.NumGoroutine") = false
 clone:Ja E.P E.clone
 joins:aei E
 yld:Γ E
 ext:∀f X,E.ext f=some X->aau E.P f X
omit [Ghost] in
def ai6 {E:Env ρ} (n:Nat):(∀f p,E.pure f=some p->∀path c b h K,Ğ E (n+1) path c f b h K=Vd (c&&!E.fz f) p h b K) /\
 (∀f,E.pure f=none->E.sort f=true->∀path c b h K,Ğ E (n+1) path c f b h K=match b with|[x]=>U8 h x K|_=>none) /\
 (∀f,E.pure f=none->E.sort f=false->E.compact f=true->∀path c b h K,Ğ E (n+1) path c f b h K=match b with|[x]=>o9 h x K|_=>none) :=
 ⟨fun f p d path c b h K=>by simp only[Ğ,d],fun f d e path c b h K=>by simp only[Ğ,d,e]; rfl,fun f d e i path c b h K=>by simp only[Ğ,d,e,i]; rfl⟩
omit [Ghost] in
def mG {E:Env ρ} (i:∀[Ghost],Γ E->Bm E) (hdraw:∀[Ghost] L call,jM E L call->qB E L call)
 (hloops:∀n,n<=10->(∀[Ghost],Γ E->jM E (22-2*n) (Ğ E n))->∀[Ghost],Γ E->∀(path:rT Nat) (f:Nat) (fn:Func) (c:Code),path.length+2=22-2*n->E.P.funcs[f]?=some fn->fn.body=some c->∀x∈Ø 0 c,kT E path f x.1 x.2) :
 ∀n,n<=10->∀[Ghost],Γ E->jM E (22-2*n) (Ğ E n):=by
 intro n
 induction n with
 |zero=>exact fun _ _ l=>⟨.inl fun _ _ _ _ _ _=>rfl,fun path q g m h K r _ e=>(by cases e),(i l).plain,(i l).clone,(i l).joins,l⟩
 |succ n v =>
  intro O k l;have hE:∀[Ghost],Γ E->jM E (22-2*n) (Ğ E n):=v (by omega);have b:=i l;refine⟨.inr (ai6 n),fun path q g m h K r N e ν w vals H C d=>?_,b.plain,b.clone,b.joins,l⟩;simp only[Ğ] at e
  split at e
  ·rename_i J z;exact aeF (b.pure g J z) e H d
  ·split at e
   ·rename_i y
    split at e<;>try (cases e; done)
    rename_i x;obtain⟨u,rfl,s⟩:=d.one;exact b.sort g y h x K r e ν w u H s
   ·split at e
    ·rename_i A
     split at e<;>try (cases e; done)
     rename_i x;obtain⟨u,rfl,s⟩:=d.one;exact b.compact g A h x K r e ν w u H s
    ·split at e
     ·rename_i X B;exact b.ext g X B h m K r e ν w vals H d
     split at e<;>try (cases e; done)
     split at e<;>try (cases e; done)
     have j:path.length+2=22-2*n:=by omega
     have o:∀M,@Γ _ (k.re k.G [] none M) ρ E:=fun _=>l;have p:∀M,@jM _ (k.re k.G [] none M) ρ E (22-2*n) (Ğ E n):=fun M=>@hE (k.re k.G [] none M) (o M);exact vQ p (fun M=>@hdraw (k.re k.G [] none M) _ _ (p M)) j (fun M fn c I h2=>@hloops n (by omega) hE (k.re k.G [] none M) (o M) path g fn c j I h2) e H C d
end
end Go.Am
end

noncomputable section
namespace Go.Am
variable [Globs] [Ghost]
section
variable {ρ:Type} {P:Program} {h h2:rT Blk} {t t2:rT AV}
def nX (h h2:rT Blk) (v:AV):Prop:=∀id∈refs2 h v,lkB h2 id=lkB h id
def nX.one {v:AV} (b:nX h h2 v):∀id∈refs1 v,lkB h2 id=lkB h id:=fun id hi=>b id (by simp only[refs2,dA]; exact .inl hi)
def nX.refs {v:AV} (d:nX h h2 v):refs2 h2 v=refs2 h v:=by
 simp only[refs2]
 have:∀(l:rT Nat),(∀id∈l,lkB h2 id=lkB h id)->(l.flatMap fun id=>(Qs (lkB h2 id)).flatMap Ĕ)=l.flatMap fun id=>(Qs (lkB h id)).flatMap Ĕ:=by
  intro l
  induction l with
  |nil=>intro _; rfl
  |cons x l c=>intro b; simp only[dR]; rw[b x (by simp),c fun id hi=>b id (by simp[hi])]
 rw[this _ d.one]
def pm {v:AV} (b:∀id∈Ĕ v,lkB h2 id=lkB h id):ñ h2 v=ñ h v:=by
 cases v<;>first
  |rfl
  |(simp only[ñ]; rw[b _ (by simp[Ĕ])])
def En {v:AV} (d:∀id∈refs1 v,lkB h2 id=lkB h id):acv h2 v=acv h v:=by
 have one:(∀id∈Ĕ v,lkB h2 id=lkB h id)->ñ h2 v=ñ h v:=pm
 cases v with
 |agg cs =>
  simp only[acv,AV.agg.injEq];exact fe fun c e=>pm fun id hi=>d id (dY.2 ⟨c,e,hi⟩)
 |fn f a b=>exact one fun _ hi=>by cases hi
 |_=>exact one d
def afm {ty:TypeId} {a:AV} (b:∀id∈refs1 a,lkB h2 id=lkB h id) (K:AV->rF ρ):PG P h2 ty a K=PG P h ty a K:=by
 cases a<;>first
  |rfl
  |(simp only[PG]; rw[b _ (by simp[refs1,Ĕ])])
def aaO {o:Nat} {a:AV} (b:∀id∈refs1 a,lkB h2 id=lkB h id) (K:AV->rF ρ):xq h2 a o K=xq h a o K:=by
 cases a<;>first
  |rfl
  |(simp only[xq]; rw[b _ (by simp[refs1,Ĕ])])
def abB {sz:Nat} {a i:AV} (b:∀id∈refs1 a,lkB h2 id=lkB h id) (K:AV->rF ρ):CP sz h2 a i K=CP sz h a i K:=by
 cases i<;>try rfl
 cases a<;>first
  |rfl
  |(simp only[CP]; rw[b _ (by simp[refs1,Ĕ])])
def ail {d:rF TypeDesc} {a:AV} (b:∀id∈refs1 a,lkB h2 id=lkB h id) (K:AV->rF ρ):akj d h2 a K=akj d h a K:=by
 unfold akj
 split<;>cases a<;>first
  |rfl
  |(simp only[]; rw[b _ (by simp[refs1,Ĕ])])
def Zm {ty:TypeId} {m i:AV} {ok:Bool} (b:∀id∈refs1 m,lkB h2 id=lkB h id) (K:AV->rF ρ):qo P h2 ty m i ok K=qo P h ty m i ok K:=by
 unfold qo
 have:ñ h2 m=ñ h m:=pm fun id hi=>b id (by cases m<;>first|exact hi|simp[Ĕ] at hi)
 rw[this]
def ab3 {σ:Type} {a:AV} {K:AV->rF σ} (b:∀id∈refs1 a,lkB h2 id=lkB h id):C1 h2 a K=C1 h a K:=by
 cases a<;>first
  |rfl
  |(simp only[C1]; rw[b _ (by simp[refs1,Ĕ])])
def Zn {σ:Type} {P:Program} {ty:TypeId} {id:Nat} {i:AV} {ok:Bool} {K:AV->rF σ} (b:lkB h2 id=lkB h id):sQ P h2 ty id i ok K=sQ P h ty id i ok K:=by
 unfold sQ;rw[b]
def Jg {σ:Type} {sz:Nat} {a:AV} {lo hi:rF AV} (K:AV->rT Blk->rF σ):pJ sz h a lo hi false K=(pJ sz h a lo hi false fun v _=>some v).bind fun v=>K v h:=by
 unfold pJ;dsimp only
 (repeat' split)<;>rfl
def aaM {sz:Nat} {a:AV} {lo hi:rF AV} (b:∀id∈refs1 a,lkB h2 id=lkB h id):∃φ:rF AV,(∀{σ:Type} (K:AV->rT Blk->rF σ),pJ sz h a lo hi false K=φ.bind fun v=>K v h)/\∀{σ:Type} (K:AV->rT Blk->rF σ),pJ sz h2 a lo hi false K=φ.bind fun v=>K v h2:=by
 refine⟨pJ sz h a lo hi false fun v _=>some v,fun K=>?_,fun K=>?_⟩
 ·exact Jg K
 ·rw[Jg K];congr 1
  cases a<;>first
   |rfl
   |(simp only[pJ]; rw[b _ (by simp[refs1,Ĕ])])
def ap (nid:Nat) (b:rF Blk) (h:rT Blk):rT Blk:=match b with|none=>h|some B=>î h nid B
def pbind {α σ σ2:Type} {R:rF σ->rF σ2->Prop} (h0:R none none) {x:rF α} {K:α->rF σ} {K2:α->rF σ2} (h:∀a,R (K a) (K2 a)):R (x.bind K) (x.bind K2):=by
 cases x with
 |none=>exact h0
 |some a=>exact h a
def pb2 {α σ σ2:Type} {R:rF σ->rF σ2->Prop} (h0:R none none) {x:rF α} {K:α->rF σ} {K2:α->rF σ2} {z:rF σ} {b:rF σ2} (c:z=x.bind K) (h2:b=x.bind K2) (h:∀a,R (K a) (K2 a)):R z b:=by
 subst c h2; exact pbind h0 h
def M5 {l:rT Operand} (b:∀x∈l,ev t2 x=ev t x):l.map (ev t2)=l.map (ev t):=fe b
def ahw {l:rT (Nat×Operand)} (b:∀x∈l.map (·.2),ev t2 x=ev t x):(l.map fun p=>(p.1,ev t2 p.2))=l.map fun p=>(p.1,ev t p.2):=fe fun p c=>by rw[b p.2 (eN.2 ⟨p,c,rfl⟩)]
def S6 {ty:Ty}:∀{ps:rT (Nat×AV)} {n:Nat},(∀p∈ps,∀id∈refs1 p.2,lkB h2 id=lkB h id)->ME h2 ty n ps=ME h ty n ps
 |[],_,_=>rfl
 |(i,v)::ps,n,b=>by
  simp only[ME];rw[En (b (i,v) (by simp)),S6 fun q c=>b q (by simp[c])]
def amr {σ σ2:Type} {R:rF σ->rF σ2->Prop} {E:Env ρ} {o:Op} {nid:Nat} {K:AV->St->rF σ} {K2:AV->St->rF σ2} (h0:R none none) (s:cls E o<=1) (G:Ul o=false)
 (k:∀x∈o.operands.toList,ev t2 x=ev t x) (C:cls E o=1->∀x∈o.operands.toList,∀id∈refs1 (ev t x),lkB h2 id=lkB h id)
 (J:∀v I,(I.isSome=true->Ā E.clone o=true)->R (K v {t:=t,h:=ap nid I h}) (K2 v {t:=t2,h:=ap nid I h2})) :
 R (opK P {t:=t,h:=h} nid false o K) (opK P {t:=t2,h:=h2} nid false o K2):=by
 have j:∀v,R (K v {t:=t,h:=h}) (K2 v {t:=t2,h:=h2}):=fun v=>J v none (by simp);have ha:Ā E.clone o=true->∀v B,R (K v {t:=t,h:=î h nid B}) (K2 v {t:=t2,h:=î h2 nid B}):=fun al v B=>J v (some B) fun _=>al
 cases o with
 |move x =>
  have e:=k x (by simp[Op.operands]);simp only[opK,e]; exact j _
 |assign x =>
  have e:=k x (by simp[Op.operands]);simp only[opK,e]; exact j _
 |pick c a b =>
  have q:=k c (by simp[Op.operands]);have z:=k a (by simp[Op.operands]);have T:=k b (by simp[Op.operands]);simp only[opK,q,z,T]
  (repeat' split)<;>first|exact h0|exact j _
 |box _ x =>
  have e:=k x (by simp[Op.operands]);simp only[opK,e]
  (repeat' split)<;>first|exact h0|exact ha rfl _ _
 |alloc e =>
  simp only[opK]
  (repeat' split)<;>first|exact h0|exact ha rfl _ _
 |build ty ps =>
  have e:=ahw (l:=ps.toList) (t:=t) (t2:=t2) fun x p=>k x (by simpa[Op.operands] using p);simp only[opK,e]
  (repeat' split)<;>first|exact h0|exact j _
 |buildSlice ty n ps=>exact absurd s (by decide:¬2<=1)
 |load ty a =>
  have e:=k a (by simp[Op.operands]);have d:=C rfl a (by simp[Op.operands]);simp only[opK,e];rw[afm d];exact pb2 h0 (uB ..) (uB ..) fun v=>j v
 |nilCheck x =>
  have e:=k x (by simp[Op.operands]);have d:=C rfl x (by simp[Op.operands]);simp only[opK,e]
  cases O:ev t x with
  |optr id g i off =>
   have:=d id (by rw[O]; simp[refs1,Ĕ]);simp only[this]
   (repeat' split)<;>first|exact h0|exact j _
  |_=>first|exact h0|exact j _
 |binOp op ty x y yt =>
  have q:=k x (by simp[Op.operands]);have z:=k y (by simp[Op.operands]);simp only[opK,q,z]
  split
  ·exact pb2 h0 (Az ..) (Az ..) fun v=>j v
  ·exact pb2 h0 (A0 ..) (A0 ..) fun v=>j v
 |unOp op ty x =>
  have e:=k x (by simp[Op.operands]);simp only[opK,e]
  (repeat' split)<;>first|exact h0|exact j _|exact pb2 h0 (Ed ..) (Ed ..) fun v=>j v
 |convert src dst x =>
  have e:=k x (by simp[Op.operands]);have d:=C rfl x (by simp[Op.operands]);simp only[opK,e]
  (repeat' split)<;>first|exact h0|exact j _|(rw[ab3 d]; exact pb2 h0 (pD ..) (pD ..) fun v=>j v)
 |makeFunc fn first captured =>
  have q:=M5 (l:=first.toList) (t:=t) (t2:=t2) fun x p=>k x (by simp[Op.operands]; exact .inl (by simpa using p));have z:=M5 (l:=captured.toList) (t:=t) (t2:=t2) fun x p=>k x (by simp[Op.operands]; exact .inr (by simpa using p));simp only[opK,q,z]
  (repeat' split)<;>first|exact h0|exact j _
 |makeMap ty r =>
  simp only[opK]
  (repeat' split)<;>first|exact h0|exact ha rfl _ _
 |range ty x =>
  have e:=k x (by simp[Op.operands]);simp only[opK,e]
  (repeat' split)<;>first|exact h0|exact ha rfl _ _
 |makeSlice ty l c =>
  have e:=k l (by simp[Op.operands]);simp only[opK,e]
  (repeat' split)<;>first|exact h0|exact ha rfl _ _
 |slice ty x lo hi mx =>
  have e:=k x (by simp[Op.operands]);have d:=C rfl x (by simp[Op.operands])
  have q:lo.map (ev t2)=lo.map (ev t):=by
   cases lo with
   |none=>rfl
   |some l=>simp[k l (by simp[Op.operands])]
  have z:hi.map (ev t2)=hi.map (ev t):=by
   cases hi with
   |none=>rfl
   |some l=>simp[k l (by simp[Op.operands])]
  simp only[opK,e,q,z]
  (repeat' split)<;>first
   |exact h0
   |exact pb2 h0 (ja ..) (ja ..) fun v=>j v
   | (obtain ⟨φ, N, L⟩ := aaM d
      rw[N,L]
      exact pbind h0 fun v=>j v)
 |fieldAddr ty x f =>
  have e:=k x (by simp[Op.operands]);have d:=C rfl x (by simp[Op.operands]);simp only[opK,e]
  (repeat' split)<;>first
   |exact h0
   |(rw[aaO d]; exact pb2 h0 (pn ..) (pn ..) fun v=>j v)
 |field ty x f =>
  have e:=k x (by simp[Op.operands]);simp only[opK,e]
  (repeat' split)<;>first|exact h0|exact j _
 |indexAddr ty x i =>
  have q:=k x (by simp[Op.operands]);have z:=k i (by simp[Op.operands]);have d:=C rfl x (by simp[Op.operands]);simp only[opK,q,z]
  (repeat' split)<;>first
   |exact h0
   |exact j _
   |exact pb2 h0 (ir ..) (ir ..) fun v=>j _
   |(rw[abB d]; exact pb2 h0 (pu ..) (pu ..) fun v=>j v)
 |index ty x i =>
  have q:=k x (by simp[Op.operands]);have z:=k i (by simp[Op.operands]);simp only[opK,q,z]
  (repeat' split)<;>first|exact h0|exact j _|exact pb2 h0 (jb ..) (jb ..) fun v=>j v|exact pb2 h0 (ir ..) (ir ..) fun v=>by(repeat' split)<;>first|exact h0|exact j _
 |lookup ty m i ok =>
  have q:=k m (by simp[Op.operands]);have z:=k i (by simp[Op.operands]);have d:=C rfl m (by simp[Op.operands]);simp only[opK,q,z]
  cases p:ev t m with
  |ofn id =>
   rw[p] at d;simp only;rw[Zn (d id (by simp[refs1,Ĕ]))];exact pb2 h0 (mz ..) (mz ..) fun v=>j v
  |_ =>
   rw[p] at d;simp only;rw[Zm d];exact pb2 h0 (my ..) (my ..) fun v=>j v
 |extract x i =>
  have e:=k x (by simp[Op.operands]);simp only[opK,e]
  (repeat' split)<;>first|exact h0|exact j _
 |call c =>
  obtain⟨A,u,tys⟩:=c
  cases A with
  |builtin b =>
   have e:=M5 (l:=u.toList) (t:=t) (t2:=t2) fun x p=>k x (by simpa[Op.operands,Call.operands] using p);have d:cls E (.call ⟨.builtin b,u,tys⟩)=1->∀x∈u.toList,∀id∈refs1 (ev t x),lkB h2 id=lkB h id:=fun S x p=>C S x (by simpa[Op.operands,Call.operands] using p);generalize H:u.toList=l at e d;generalize p:tys.toList=m
   cases b with
   |append=>simp[cls] at s
   |clear=>simp[cls] at s
   |len =>
    rcases l with _|⟨x,_|⟨y,l⟩⟩<;>rcases m with _|⟨ty,m⟩<;>simp only[opK,H,p]<;>try exact h0
    have q:ev t2 x=ev t x:=by simpa using e
    rw[q,ail (d rfl x (by simp))];exact pb2 h0 (As ..) (As ..) fun v=>j v
   |cap =>
    rcases l with _|⟨x,_|⟨y,l⟩⟩<;>rcases m with _|⟨ty,m⟩<;>simp only[opK,H,p]<;>try exact h0
    have q:ev t2 x=ev t x:=by simpa using e
    rw[q]
    (repeat' split)<;>first|exact h0|exact j _
   |min =>
    rcases l with _|⟨x,l⟩<;>simp only[opK,H,p]<;>try exact h0
    simp only[eM,List.cons.injEq] at e;rw[e.1,e.2];exact pb2 h0 (π _ _ _ _) (π _ _ _ _) fun v=>j v
   |max =>
    rcases l with _|⟨x,l⟩<;>simp only[opK,H,p]<;>try exact h0
    simp only[eM,List.cons.injEq] at e;rw[e.1,e.2];exact pb2 h0 (π _ _ _ _) (π _ _ _ _) fun v=>j v
   |_=>simp only[opK]; (repeat' split)<;>first|exact h0|contradiction
  |value f=>cases G
  |invoke r m=>exact h0
 |store=>simp[cls] at s
 |mapUpdate=>simp[cls] at s
 |insert=>simp[cls] at s
 |next=>simp[cls] at s
 |_=>exact h0
def aps (ups:rT (Nat×Blk)) (h:rT Blk):rT Blk:=ups.foldl (fun h p=>î h p.1 p.2) h
def I6 {id:Nat} {B:Blk}:aps [(id,B)] h=î h id B:=rfl
def kS {u v:rT (Nat×Blk)}:aps (u++v) h=aps v (aps u h):=by simp[aps]
def uC:∀(ups:rT (Nat×Blk)) (h:rT Blk),(aps ups h).length=h.length
 |[],_=>rfl
 |p::ups,h=>by show(aps ups (î h p.1 p.2)).length=_; rw[uC ups,Û]
def UV {id:Nat}:∀{ups:rT (Nat×Blk)} {h:rT Blk},(∀p∈ups,p.1≠id)->lkB (aps ups h) id=lkB h id
 |[],_,_=>rfl
 |p::ups,h,b=>by
  show lkB (aps ups (î h p.1 p.2)) id=_;rw[UV fun q c=>b q (by simp[c]),Ð _ (Ne.symm (b p (by simp)))]
def A2 {id:Nat}:∀{ups:rT (Nat×Blk)} {h h2:rT Blk},h2.length=h.length->lkB h2 id=lkB h id->lkB (aps ups h2) id=lkB (aps ups h) id
 |[],_,_,_,b=>b
 |p::ups,h,h2,c,b=>A2 (ups:=ups) (h:=î h p.1 p.2) (h2:=î h2 p.1 p.2) (by simp[Û,c]) (by simp only[sh,c,b])
def adH {v:AV} (f:∀id∈Ĕ v,lkB h2 id=lkB h id):∃ups,qC h v=aps ups h/\qC h2 v=aps ups h2/\∀p∈ups,p.1∈Ĕ v:=by
 have c:qC h v=h->qC h2 v=h2->∃ups,qC h v=aps ups h/\qC h2 v=aps ups h2/\∀p∈ups,p.1∈Ĕ v:=fun i d=>⟨[],i,d,by simp⟩
 cases v with
 |own id g =>
  have e:=f id (by simp[Ĕ])
  cases b:lkB h id with
  |row t g fz xs =>
   rw[b] at e;exact⟨[(id,.row t g true xs)],by simp only[qC,b]; rfl,by simp only[qC,e]; rfl,by simp[Ĕ]⟩
  |_=>rw[b] at e; exact c (by simp only[qC,b]) (by simp only[qC,e])
 |sub id g lo n =>
  have e:=f id (by simp[Ĕ])
  cases b:lkB h id with
  |row t g fz xs =>
   rw[b] at e;exact⟨[(id,.row t g true xs)],by simp only[qC,b]; rfl,by simp only[qC,e]; rfl,by simp[Ĕ]⟩
  |_=>rw[b] at e; exact c (by simp only[qC,b]) (by simp only[qC,e])
 |_=>exact c rfl rfl
def Ws:∀{cs:rT AV} {h h2:rT Blk},h2.length=h.length->(∀c∈cs,∀id∈Ĕ c,lkB h2 id=lkB h id)->∃ups,Bj h cs=aps ups h/\Bj h2 cs=aps ups h2/\∀p∈ups,∃c∈cs,p.1∈Ĕ c
 |[],_,_,_,_=>⟨[],rfl,rfl,by simp⟩
 |c::cs,h,h2,i,f=>by
  obtain⟨u,j,e,o⟩:=adH (f c (by simp));obtain⟨v,m,l,k⟩:=Ws (cs:=cs) (h:=qC h c) (h2:=qC h2 c) (by rw[mC,mC,i]) (fun d hd id hi=>by rw[j,e]; exact A2 i (f d (by simp[hd]) id hi));refine⟨u++v,by simp only[Bj]; rw[m,j,kS],by simp only[Bj]; rw[l,e,kS],fun p b=>?_⟩;rcases dA.1 b with b|b
  ·exact⟨c,by simp,o p b⟩
  ·obtain⟨d,hd,hi⟩:=k p b;exact⟨d,by simp[hd],hi⟩
def Wq {v:AV} (l:h2.length=h.length) (k:∀id∈refs1 v,lkB h2 id=lkB h id):∃ups,frz h v=aps ups h/\frz h2 v=aps ups h2/\∀p∈ups,p.1∈refs1 v:=by
 have one:(∀id∈Ĕ v,lkB h2 id=lkB h id)->∃ups,qC h v=aps ups h/\qC h2 v=aps ups h2/\∀p∈ups,p.1∈Ĕ v:=adH
 cases v with
 |agg cs =>
  obtain⟨u,j,d,i⟩:=Ws (cs:=cs) l fun c m id hi=>k id (dY.2 ⟨c,m,hi⟩);exact⟨u,j,d,fun p e=>dY.2 (i p e)⟩
 |fn f a b =>
  obtain⟨u,j,d,i⟩:=one fun _ hi=>by cases hi
  exact⟨u,j,d,fun p e=>by cases i p e⟩
 |_=>exact one k
def Jf {ty:Ty} {x:AV} (b:∀id∈refs1 x,lkB h2 id=lkB h id):Ü (.slice ty) [ñ h2 x]=Ü (.slice ty) [ñ h x]:=by
 have:ñ h2 x=ñ h x:=pm fun id hi=>b id (by cases x<;>first|exact hi|simp[Ĕ] at hi)
 rw[this]
def afP {v:AV} {vs:rT AV} (d:ĝ v=some vs):∀c∈vs,∀id∈Ĕ c,id∈refs1 v:=by
 intro c b id hi
 cases v<;>simp only[ĝ,Option.some.injEq,reduceCtorEq] at d<;>subst d
 all_goals first
  |(simp only[dB] at b; subst b; exact hi)
  |(simp only[dB] at b; subst b; cases hi; done)
  |exact dY.2 ⟨c,b,hi⟩
def Xp {σ σ2:Type} {R:rF σ->rF σ2->Prop} {ty:TypeId} {a v:AV} {K:rT Blk->rF σ} {K2:rT Blk->rF σ2} (h0:R none none) (d:h2.length=h.length)
 (k:∀id∈refs1 a,lkB h2 id=lkB h id) (j:∀id∈refs1 v,lkB h2 id=lkB h id) (l:∀ups,(∀p∈ups,p.1∈refs1 a\/p.1∈refs1 v)->R (K (aps ups h)) (K2 (aps ups h2))):R (qR P h ty a v K) (qR P h2 ty a v K2):=by
 unfold qR
 split<;>try exact h0
 rename_i vs e
 split<;>try exact h0
 split<;>try exact h0
 ·rename_i id off;have f:=k id (by simp[refs1,Ĕ]);rw[f]
  (repeat' split)<;>first
   |exact h0
   |exact l [(id,_)] fun p b=>.inl (by simp only[dB] at b; subst b; simp[refs1,Ĕ])
 ·rename_i id g i off;have f:=k id (by simp[refs1,Ĕ]);obtain⟨u,o,m,s⟩:=Wq (v:=v) d j
  have y:lkB (frz h2 v) id=lkB (frz h v) id:=by rw[o,m]; exact A2 d f
  have x:vs.map (ñ h2)=vs.map (ñ h):=fe fun c r=>pm fun id hi=>j id (afP e c r id hi);rw[y,x]
  (repeat' split)<;>first
   |exact h0
   | (rw [o, m]
      refine l (u++[(id,_)]) (fun p b=>?_) |> fun q=>(by simpa only[kS,I6] using q)
      rcases dA.1 b with b|b
      ·exact .inr (s p b)
      ·exact .inl (by simp only[dB] at b; subst b; simp[refs1,Ĕ]))
def adF:∀{ps:rT (Nat×AV)} {h h2:rT Blk},h2.length=h.length->(∀p∈ps,∀id∈refs1 p.2,lkB h2 id=lkB h id)->∃ups,frzA h ps=aps ups h/\frzA h2 ps=aps ups h2/\∀p∈ups,∃q∈ps,p.1∈refs1 q.2
 |[],_,_,_,_=>⟨[],rfl,rfl,by simp⟩
 |(i,v)::ps,h,h2,e,j=>by
  obtain⟨u,f,b,o⟩:=Wq (v:=v) e (j (i,v) (by simp));obtain⟨w,m,l,k⟩:=adF (ps:=ps) (h:=frz h v) (h2:=frz h2 v) (by rw[f,b,uC,uC,e]) (fun q d id hi=>by rw[f,b]; exact A2 e (j q (by simp[d]) id hi));refine⟨u++w,by simp only[frzA]; rw[m,f,kS],by simp only[frzA]; rw[l,b,kS],fun p c=>?_⟩;rcases dA.1 c with c|c
  ·exact⟨(i,v),by simp,o p c⟩
  ·obtain⟨q,d,hi⟩:=k p c;exact⟨q,by simp[d],hi⟩
def am4 {σ σ2:Type} {R:rF σ->rF σ2->Prop} {E:Env ρ} {o:Op} {nid:Nat} {eat:Bool} {K:AV->St->rF σ} {K2:AV->St->rF σ2} (h0:R none none) (V:cls E o=2) (W:Ul o=false) (k:h2.length=h.length) (heat:∀ty n ps,o=.buildSlice ty n ps->eat=false)
 (H:∀x∈o.operands.toList,ev t2 x=ev t x) (N:∀x∈o.operands.toList,∀id∈refs1 (ev t x),lkB h2 id=lkB h id)
 (C:∀v ups,(∀p∈ups,(p.1=nid/\Ā E.clone o=true)\/∃x∈o.operands.toList,p.1∈refs1 (ev t x))->R (K v {t:=t,h:=aps ups h}) (K2 v {t:=t2,h:=aps ups h2})) :
 R (opK P {t:=t,h:=h} nid eat o K) (opK P {t:=t2,h:=h2} nid eat o K2):=by
 cases o with
 |buildSlice ty n ps =>
  obtain rfl:=heat ty n ps rfl;have e:=ahw (l:=ps.toList) (t:=t) (t2:=t2) fun x s=>H x (by simpa[Op.operands] using s)
  have hsp:∀p∈ps.toList.map (fun p=>(p.1,ev t p.2)),∀id∈refs1 p.2,lkB h2 id=lkB h id:=fun p d=>by
   obtain⟨q,hq,rfl⟩:=eN.1 d;exact N q.2 (by simpa[Op.operands] using⟨q.1,by simpa using hq⟩)
  have hr:∀ty n,ME h2 ty n (ps.toList.map fun p=>(p.1,ev t p.2))=ME h ty n (ps.toList.map fun p=>(p.1,ev t p.2)):=fun ty n=>S6 hsp;obtain⟨u,f1,f2,f3⟩:=adF k hsp;simp only[opK,e,hr,f1,f2]
  (repeat' split)<;>first
   |exact h0
   | (refine C _ (u ++ [(nid, _)]) (fun p d => ?_) |> fun q => (by simpa only [kS, I6] using q)
      rcases dA.1 d with d|d
      ·obtain⟨q,hq,hi⟩:=f3 p d;obtain⟨q',hq',rfl⟩:=eN.1 hq;exact .inr ⟨q'.2,by simpa[Op.operands] using⟨q'.1,by simpa using hq'⟩,hi⟩
      ·exact .inl ⟨by simp only[dB] at d; subst d; rfl,rfl⟩)
 |store ty a v =>
  have e1:=H a (by simp[Op.operands]);have e2:=H v (by simp[Op.operands]);have G:=N a (by simp[Op.operands]);have s2:=N v (by simp[Op.operands]);have ma:∀{id:Nat},id∈refs1 (ev t a)->∃x∈(Op.store ty a v).operands.toList,id∈refs1 (ev t x):=fun hi=>⟨a,by simp[Op.operands],hi⟩;have mv:∀{id:Nat},id∈refs1 (ev t v)->∃x∈(Op.store ty a v).operands.toList,id∈refs1 (ev t x):=fun hi=>⟨v,by simp[Op.operands],hi⟩;simp only[opK,e1,e2]
  cases eat with
  |false =>
   simp only;exact Xp h0 k G s2 fun ups U=>C _ ups fun p d=>.inr ((U p d).elim ma mv)
  |true =>
   simp only
   cases J:ev t v with
   |sub id g lo n =>
    rw[J] at s2 mv;have Y:=s2 id (by simp[refs1,Ĕ]);simp only[Y]
    split<;>try exact h0
    split<;>try exact h0
    refine Xp h0 (by simp[Û,k]) (fun j hj=>?_) (fun j hj=>?_) fun ups U=>C _ ((id,_)::ups) fun p d=>.inr ?_
    ·exact A2 (ups:=[(id,_)]) k (G j hj)
    ·simp only[refs1,Ĕ,dB] at hj;subst hj;exact A2 (ups:=[(_,_)]) k Y
    ·rcases dE.1 d with rfl|d
     ·exact mv (by simp[refs1,Ĕ])
     ·rcases U p d with U|U
      ·exact ma U
      ·exact mv (by simpa[refs1,Ĕ] using U)
   |_=>exact h0
 |mapUpdate ty m i x =>
  have e1:=H m (by simp[Op.operands]);have e2:=H i (by simp[Op.operands]);have Y:=H x (by simp[Op.operands]);have G:=N m (by simp[Op.operands]);have Z:=N x (by simp[Op.operands]);obtain⟨u,f1,f2,f3⟩:=Wq (v:=ev t x) k Z;simp only[opK,e1,e2,Y]
  split
  ·rename_i id s;rw[s] at G;unfold Ŧ;rw[G id (by simp[refs1,Ĕ])]
   (repeat' split)<;>first
    |exact h0
    | (refine C _ [(id, _)] (fun p d => ?_) |> fun q => (by simpa only [I6] using q)
       exact .inr ⟨m,by simp[Op.operands],by simp only[dB] at d; subst d; rw[s]; simp[refs1,Ĕ]⟩)
  unfold ť;rw[En Z]
  split<;>try exact h0
  split<;>try exact h0
  rename_i id s;rw[s] at G;rw[G id (by simp[refs1,Ĕ])]
  (repeat' split)<;>first
   |exact h0
   | (rw [f1, f2]
      refine C _ (u++[(id,_)]) (fun p d=>?_) |> fun q=>(by simpa only[kS,I6] using q)
      rcases dA.1 d with d|d
      ·exact .inr ⟨x,by simp[Op.operands],f3 p d⟩
      ·exact .inr ⟨m,by simp[Op.operands],by simp only[dB] at d; subst d; rw[s]; simp[refs1,Ĕ]⟩)
 |next x b =>
  have e:=H x (by simp[Op.operands]);have S:=N x (by simp[Op.operands]);simp only[opK,e]
  cases b with
  |false=>exact h0
  |true =>
  simp only;unfold Vw
  split<;>try exact h0
  rename_i id J;rw[J] at S;rw[S id (by simp[refs1,Ĕ])]
  split<;>try exact h0
  split
  ·exact C _ [(id,_)] fun p d=>.inr ⟨x,by simp[Op.operands],by simp only[dB] at d; subst d; rw[J]; simp[refs1,Ĕ]⟩
  ·exact C _ [] (by simp)
 |insert ty m i x =>
  have e1:=H m (by simp[Op.operands]);have e2:=H i (by simp[Op.operands]);have Y:=H x (by simp[Op.operands]);have G:=N m (by simp[Op.operands]);have Z:=N x (by simp[Op.operands]);obtain⟨u,f1,f2,f3⟩:=Wq (v:=ev t x) k Z;simp only[opK,e1,e2,Y]
  split
  ·rename_i id s;rw[s] at G;unfold Ŧ;rw[G id (by simp[refs1,Ĕ])]
   (repeat' split)<;>first
    |exact h0
    | (refine C _ [(id, _)] (fun p d => ?_) |> fun q => (by simpa only [I6] using q)
       exact .inr ⟨m,by simp[Op.operands],by simp only[dB] at d; subst d; rw[s]; simp[refs1,Ĕ]⟩)
  unfold ť;rw[En Z]
  split<;>try exact h0
  split<;>try exact h0
  rename_i id s;rw[s] at G;rw[G id (by simp[refs1,Ĕ])]
  (repeat' split)<;>first
   |exact h0
   | (rw [f1, f2]
      refine C _ (u++[(id,_)]) (fun p d=>?_) |> fun q=>(by simpa only[kS,I6] using q)
      rcases dA.1 d with d|d
      ·exact .inr ⟨x,by simp[Op.operands],f3 p d⟩
      ·exact .inr ⟨m,by simp[Op.operands],by simp only[dB] at d; subst d; rw[s]; simp[refs1,Ĕ]⟩)
 |call c =>
  obtain⟨O,A,tys⟩:=c
  cases O with
  |builtin b =>
   have e:=M5 (l:=A.toList) (t:=t) (t2:=t2) fun x s=>H x (by simpa[Op.operands,Call.operands] using s);have L:∀x∈A.toList,∀id∈refs1 (ev t x),lkB h2 id=lkB h id:=fun x s=>N x (by simpa[Op.operands,Call.operands] using s)
   have I:∀x∈A.toList,x∈(Op.call ⟨.builtin b,A,tys⟩).operands.toList:=fun x s=>by simpa[Op.operands,Call.operands] using s
   generalize hl:A.toList=l at e L I;generalize s:tys.toList=m
   cases b with
   |append =>
    rcases l with _|⟨x,_|⟨y,_|⟨z,l⟩⟩⟩<;>rcases m with _|⟨ty,_|⟨ty',_|⟨ty'',m⟩⟩⟩<;>simp only[opK,hl,s]<;>try exact h0
    simp only[eM,List.cons.injEq,gj,and_true] at e;rw[e.1,e.2];have S:=L x (by simp);have sy:=L y (by simp);have T:∀v B,R (K v {t:=t,h:=î h nid B}) (K2 v {t:=t2,h:=î h2 nid B}):=fun v B=>C v [(nid,B)] fun p d=>.inl ⟨by simp only[dB] at d; subst d; rfl,rfl⟩
    (repeat' split)<;>first
     |exact h0
     | (unfold vY
        simp only[Jf sy]
        split<;>try exact h0
        split<;>try exact h0
        split<;>try exact h0
        split<;>try exact h0
        split<;>try exact h0
        ·split<;>first|exact h0|exact T _ _
        ·rename_i id g J;rw[J] at S;rw[S id (by simp[refs1,Ĕ])]
         (repeat' split)<;>first
          |exact h0
          |exact C _ [(id,_)] fun p d=>.inr ⟨x,I x (by simp),by simp only[dB] at d; subst d; rw[J]; simp[refs1,Ĕ]⟩)
     | (unfold Eh
        (repeat' split)<;>first|exact h0|exact T _ _)
   |clear =>
    rcases l with _|⟨x,_|⟨y,l⟩⟩<;>rcases m with _|⟨ty,_|⟨ty',m⟩⟩<;>simp only[opK,hl,s]<;>try exact h0
    simp only[eM,List.cons.injEq,gj,and_true] at e;rw[e];have S:=L x (by simp)
    split<;>try exact h0
    unfold Hs
    split<;>try exact h0
    ·exact C _ [] (by simp)
    ·rename_i id g lo n _ J _;rw[J] at S;rw[S id (by simp[refs1,Ĕ])]
     (repeat' split)<;>first
      |exact h0
      |exact C _ [(id,_)] fun p d=>.inr ⟨x,I x (by simp),by simp only[dB] at d; subst d; rw[J]; simp[refs1,Ĕ]⟩
   |_=>simp[cls] at V
  |value f=>cases W
  |invoke r m=>simp[cls] at V
 |_=>simp[cls] at V
end
end Go.Am
end
