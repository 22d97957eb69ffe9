/- lemmas -/
import Derived.Test.YtbiecdpaididoaaGreatDoorAmA
import Derived.Laws.StructEq
import Derived.ChangeKeysEq
import Derived.Laws.BytesArg
import Derived.Laws.Strings3
import Derived.Laws.DeepStrings4
import Derived.OrdersIn
import Derived.RangeFuncSeq
import Derived.RangeFuncRecord
import Derived.LoopNIn
set_option linter.all false
noncomputable section
namespace Go.Am
variable [Globs] [É]
section
variable {ν ν':Nat->Value} {h h':AS Blk} {w w':World} {P:Program}
def gu {t:TypeId} {k:Ty} (b:vl P t k=true) :
 (P.underlying t=some .bool/\k=.bool)\/(∃i,P.underlying t=some (.int i)/\k=.int i):=by
 unfold vl at b
 split at b<;>try (cases b; done)
 ·split at b<;>try (cases b; done)
  exact .inl ⟨‹_›,rfl⟩
 ·split at b<;>try (cases b; done)
  have:=eq_of_beq b;subst this;exact .inr ⟨_,‹_›,rfl⟩
def keyVal:(k:Ty)->Val k->Value
 |.bool,b=>.bool b
 |.int i,n=>.int i n
 |.str,s=>.string s
 |_,_=>undef
def CR.keyVal {av:Nat->Prop} {t:TypeId} {k:Ty} {x:Val k} {v:Value} (b:vl P t k=true) (c:CR w av k x [v]):v=keyVal k x:=by
 rcases gu b with⟨_,rfl⟩|⟨i,_,rfl⟩
 all_goals
  have:[v]=[_]:=c;simpa[Am.keyVal] using this
def MW {av:Nat->Prop} {t:TypeId} {k:Ty} {x:Val k} (b:vl P t k=true):CR w av k x [keyVal k x]:=by
 rcases gu b with⟨_,rfl⟩|⟨i,_,rfl⟩<;>exact(rfl:[_]=[_])
def vX {t:TypeId} {k:Ty} {x:Val k} {empty:Bool} (c:vl P t k=true) (m:Nat):(Instr.checkKey empty (m+1) t (keyVal k x)).run P w=.ok () w:=by
 rcases gu c with⟨b,rfl⟩|⟨i,b,rfl⟩<;>simp[Instr.checkKey,run_underlying b,keyVal]
def rh {t:TypeId} {k:Ty} (c:vl P t k=true):∃d,P.underlying t=some d/\∀x y:Val k,Instr.sameNow d (keyVal k x) (keyVal k y)=some (kO k x y):=by
 rcases gu c with⟨b,rfl⟩|⟨i,b,rfl⟩
 ·exact⟨_,b,fun _ _=>rfl⟩
 ·refine⟨_,b,fun x y=>?_⟩;simp only[Instr.sameNow,keyVal,kO,if_true];congr 1
def Ents (w:World) (av:Nat->Prop) (k v:Ty) (es:AS (Val k×Val v)) (b:AS MapEntry):Prop :=
 ä (fun(e:Val k×Val v) (m:MapEntry)=>m.key=keyVal k e.1/\∃us,CR w av v e.2 us/\m.val=nJ v us) es b
def vv {d:TypeDesc} {av:Nat->Prop} {k v:Ty} {x:Val k} (hd:∀y,Instr.sameNow d (keyVal k x) (keyVal k y)=some (kO k x y)):∀(es:AS (Val k×Val v)) (ms:AS MapEntry) (i:Nat),Ents w av k v es ms ->
 (ro x es=none/\Instr.findNow d (keyVal k x) ms i=some none) \/
 ∃y j us,ro x es=some y/\Instr.findNow d (keyVal k x) ms i=some (some (i+j,nJ v us))/\CR w av v y us/\j<es.length/\(∀b,Lb x b es=es.set j (x,b))/\∃e,es[j]?=some e/\kO k x e.1=true
 |[],[],i,_=>.inl ⟨rfl,rfl⟩
 |[],_::_,_,f=>f.elim
 |_::_,[],_,f=>f.elim
 |e::es,m::ms,i,f=>by
  obtain⟨⟨A,us,h2,z⟩,f⟩:=f;have l:=hd e.1;rw[<-A] at l
  cases c:kO k x e.1 with
  |true =>
   rw[c] at l;exact .inr ⟨e.2,0,us,by simp[ro,c],by simp[Instr.findNow,l,z],h2,by simp,fun b=>by simp[Lb,c],e,rfl,c⟩
  |false =>
   rw[c] at l;rcases vv hd es ms (i+1) f with⟨q,p⟩|⟨y,j,o,q,p,u,C,t,B,s,r⟩
   ·exact .inl ⟨by simp[ro,c,q],by simp[Instr.findNow,l,p]⟩
   ·refine .inr ⟨y,j+1,o,by simp[ro,c,q],by simp[Instr.findNow,l,p]; omega,u,by simp; omega,fun b=>by simp[Lb,c,t],B,by simpa using s,r⟩
def EQ {k v:Ty} {x:Val k} {b:Val v}:∀{es:AS (Val k×Val v)},ro x es=none->Lb x b es=es++[(x,b)]
 |[],_=>rfl
 |e::es,c=>by
  cases d:kO k x e.1 with
  |true=>simp[ro,d] at c
  |false=>simp only[ro,d] at c; simp[Lb,d,EQ c]
def ents (H:HR ν h w) {t:TypeId} {m:AV} {um:Value} {k v:Ty} {es:AS (Val k×Val v)} (A:vl P t k=true) (p:VR ν h w m um) (e:ç h m=.mp k v es) :
 ∃r,um=.map r/\((r=none/\es=[])\/∃b c d,r=some b/\w.heap[b]?=some (.map c d)/\Ents w (Av ν h) k v es c.toList):=by
 have fin:∀(c:Array MapEntry),c.size=es.length->(∀(i:Nat) (e:Val k×Val v),es[i]?=some e->∃(m:MapEntry) (us:AS Value),c[i]?=some m/\CR w (Av ν h) k e.1 [m.key]/\CR w (Av ν h) v e.2 us/\m.val=nJ v us) ->
  Ents w (Av ν h) k v es c.toList:=fun c z B=>by
  refine ä.of_get (by simpa using z.symm) fun i a b ha hb=>?_;obtain⟨m,us,l,h2,j,f⟩:=B i a ha
  have:b=m:=by simp at hb; rw[l] at hb; exact(Option.some.inj hb).symm
  subst this;exact⟨CR.keyVal A h2,us,j,f⟩
 cases m with
 |mp x u o =>
  simp only[ç] at e;cases e;obtain⟨r,l,h2⟩:=p;refine⟨r,by simpa using l,?_⟩;rcases h2 with h2|⟨b,c,d,h2,_,j,f,C⟩
  ·exact .inl h2
  ·exact .inr ⟨b,c,d,h2,j,fin c f C⟩
 |omp id =>
  obtain⟨E,x,u,o,q,y⟩:=p;simp only[ç,q] at e;cases e;have s:=H.blk id;rw[q] at s;obtain⟨b,c,d,l,h2,j,f⟩:=s;exact⟨some b,by rw[y,l],.inr ⟨b,c,d,rfl,h2,fin c j f⟩⟩
 |own id g=>simp only[ç] at e; (repeat' split at e)<;>cases e
 |sub id g lo n=>simp only[ç] at e; (repeat' split at e)<;>cases e
 |_=>simp[ç] at e
def uE {t:TypeId} {k:Ty} {i:AV} {c:Value} {x:Val k} (d:vl P t k=true) (hi:VR ν h w i c) (e:Ï k [i]=some x):c=keyVal k x:=by
 rcases gu d with⟨_,rfl⟩|⟨j,_,rfl⟩
 ·cases i<;>simp[Ï,ĵ] at e; subst e; exact hi
 ·cases i<;>try (simp[Ï,ĵ] at e; done)
  rename_i l n;simp only[Ï,ĵ] at e
  split at e<;>try (cases e; done)
  rename_i y b
  split at b<;>try (cases b; done)
  rename_i f _;subst f; cases b; cases e; exact hi
def MO (ok:Bool) (y:AV) (b:Bool):AN AV:=match ok with|true=>some (.tup [y,.bool b])|false=>some y
def MI {t:TypeId} {m i v:AV} {um N:Value} {ok:Bool} (H:HR ν h w) (e:kK P h t m i ok some=some v) (hm:VR ν h w m um) (hi:VR ν h w i N):∃u,(Instr.lookup t um N ok).run P w=.ok u w/\VR ν h w v u:=by
 unfold kK at e
 split at e<;>try (cases e; done)
 rename_i O et G
 split at e<;>try (cases e; done)
 rename_i k E z hkt het S
 cases s:P.info? et with
 |none=>simp[s] at S
 |some R =>
 cases C:R.zero with
 |none=>simp[s,C] at S
 |some o =>
 simp only[s,C,cz,b9,Option.some.injEq] at S;subst S
 -- what the run does, once the search is known
 have run:∀(x:Val k) (r:AN Nat) (ms:AS MapEntry),vl P O k=true->N=keyVal k x->um=.map r->(r=none/\ms=[]\/∃b c f,r=some b/\w.heap[b]?=some (.map c f)/\c.toList=ms) ->
  ∀d,P.underlying O=some d ->
  (∀y j,Instr.findNow d (keyVal k x) ms 0=some (some (j,y))->(Instr.lookup t um N ok).run P w=.ok (if ok then .tuple #[y,.bool true] else y) w) /\
  (Instr.findNow d (keyVal k x) ms 0=some none->(Instr.lookup t um N ok).run P w=.ok (if ok then .tuple #[o,.bool false] else o) w):=by
  intro x r ms B U p Y d hd;subst U p;have A:=fun em=>vX (P:=P) (w:=w) (x:=x) (empty:=em) B 9999;have A:∀em,(Instr.checkKey em 10000 O (keyVal k x)).run P w=.ok () w:=A;rcases Y with⟨rfl,rfl⟩|⟨b,c,f,rfl,hb,rfl⟩
  ·constructor
   ·intro y j J; simp[Instr.findNow] at J
   ·intro J;simp only[Instr.lookup,Sem.run_bind,run_underlying G,Result.andThen_ok,Sem.run_pure,A];simp[Instr.findKey,run_underlying hd,Instr.findNow,zeroValue,typeInfo,s,C]
  ·constructor
   ·intro y j J;simp only[Instr.lookup,Sem.run_bind,run_underlying G,Result.andThen_ok,Sem.run_pure,Ŷ hb,A];simp[Instr.findKey,run_underlying hd,J]
   ·intro J;simp only[Instr.lookup,Sem.run_bind,run_underlying G,Result.andThen_ok,Sem.run_pure,Ŷ hb,A];simp[Instr.findKey,run_underlying hd,J,zeroValue,typeInfo,s,C]
 have L:∀{V:AV},MO ok (cv o) false=some V->VR ν h w V (if ok then .tuple #[o,.bool false] else o):=fun {V} hV=>by
  cases ok with
  |false=>cases hV; exact F1 o
  |true =>
   cases hV;refine⟨#[o,.bool false],rfl,?_,rfl,trivial⟩;have:=F1 (ν:=ν) (h:=h) (w:=w) o
   cases G:(cv o).isTup with
   |true=>exact absurd G (by rw[F0]; simp)
   |false=>rwa [nc G] at this
 split at e<;>try (cases e; done)
 ·rename_i k' v' es B l
  split at e<;>try (cases e; done)
  rename_i heq _;cases heq
  split at e<;>try (cases e; done)
  rename_i x T;have I:=uE B hi T;obtain⟨d,hd,q⟩:=rh (P:=P) (t:=O) (k:=k) B;obtain⟨r,p,Y⟩:=ents H B hm l
  have W:∃ms,Ents w (Av ν h) k E es ms/\(r=none/\ms=[]\/∃b c f,r=some b/\w.heap[b]?=some (.map c f)/\c.toList=ms):=by
   rcases Y with⟨rfl,rfl⟩|⟨b,c,f,rfl,hb,hE⟩
   ·exact⟨[],trivial,.inl ⟨rfl,rfl⟩⟩
   ·exact⟨_,hE,.inr ⟨b,c,f,rfl,hb,rfl⟩⟩
  obtain⟨ms,hE,Z⟩:=W;obtain⟨r1,r2⟩:=run x r ms B I p Z d hd;rcases vv (q x) es ms 0 hE with⟨h4,h5⟩|⟨y,j,us,h4,h5,h6,_⟩
  ·have K:(match (ro x es:AN (Val E)) with|some y=>MO ok (enc E y) true|none=>MO ok (cv o) false)=some v:=e;rw[h4] at K;exact⟨_,r2 h5,L K⟩
  ·have K:(match (ro x es:AN (Val E)) with|some y=>MO ok (enc E y) true|none=>MO ok (cv o) false)=some v:=e;rw[h4] at K;refine⟨_,r1 _ _ h5,?_⟩;have hv:=ww h6
   cases ok with
   |false=>cases K; exact hv
   |true =>
    cases K;refine⟨#[nJ E us,.bool true],rfl,?_,rfl,trivial⟩
    have G:(enc E y).isTup=false:=by cases E<;>rfl
    rwa [nc G] at hv
 ·rename_i B l
  split at e<;>try (cases e; done)
  rename_i x T;have I:=uE B hi T;obtain⟨d,hd,q⟩:=rh (P:=P) (t:=O) (k:=k) B
  have p:um=.map none:=by
   cases m with
   |nilm=>exact hm
   |own id g=>simp only[ç] at l; (repeat' split at l)<;>cases l
   |sub id g lo n=>simp only[ç] at l; (repeat' split at l)<;>cases l
   |omp id=>simp only[ç] at l; (repeat' split at l)<;>cases l
   |_=>simp[ç] at l
  obtain⟨r1,r2⟩:=run x none [] B I p (.inl ⟨rfl,rfl⟩) d hd;exact⟨_,r2 rfl,L e⟩
def MH {t:TypeId} {m i v:AV} {um b:Value} {ok:Bool} (H:HR ν h w) (e:kK P h t m i ok some=some v) (c:VR ν h w m um) (hi:VR ν h w i b):ħ P ν h w (Instr.lookup t um b ok) v h:=by
 obtain⟨u,d,h2⟩:=MI H e c hi;exact ħ.still H d h2
def uH {x:AV} {cs:AS AV} (e:ģ (Ij h x)=some cs):∃vs,ģ x=some vs/\cs=vs.map (ç h):=by
 cases x with
 |agg l=>simp only[Ij,ģ,Option.some.injEq] at e; exact⟨l,rfl,e.symm⟩
 |any=>cases e
 |und=>cases e
 |tup=>cases e
 |own id g =>
  refine⟨_,rfl,?_⟩;simp only[Ij] at e
  have:ç h (.own id g)=.any\/∃t xs,ç h (.own id g)=.slc t xs:=by
   simp only[ç]; (repeat' split)<;>first|exact .inl rfl|exact .inr ⟨_,_,rfl⟩
  rcases this with b|⟨t,xs,b⟩<;>rw[b] at e<;>cases e
  simp[b]
 |sub id g lo n =>
  refine⟨_,rfl,?_⟩;simp only[Ij] at e
  have:ç h (.sub id g lo n)=.any\/∃t xs,ç h (.sub id g lo n)=.slc t xs:=by
   simp only[ç]; (repeat' split)<;>first|exact .inl rfl|exact .inr ⟨_,_,rfl⟩
  rcases this with b|⟨t,xs,b⟩<;>rw[b] at e<;>cases e
  simp[b]
 |omp id =>
  refine⟨_,rfl,?_⟩;simp only[Ij] at e
  have:ç h (.omp id)=.any\/∃k v xs,ç h (.omp id)=.mp k v xs:=by
   simp only[ç]; (repeat' split)<;>first|exact .inl rfl|exact .inr ⟨_,_,_,rfl⟩
  rcases this with b|⟨k,v,xs,b⟩<;>rw[b] at e<;>cases e
  simp[b]
 |_=>cases e; exact⟨_,rfl,rfl⟩
def Je {a:AV} {id:Nat} {k v:Ty} {es:AS (Val k×Val v)} (b:lkB h id=.map k v es):lkB (jF h a) id=.map k v es:=by
 have c:∀(j g:Nat) (t:Ty) (fz:Bool) (xs:AS (Val t)),lkB h j=.row t g fz xs->lkB (Ú h j (.row t g true xs)) id=.map k v es:=fun j g t fz xs d=>by
  by_cases e:id=j
  ·subst e; rw[b] at d; cases d
  ·rw[È _ e]; exact b
 cases a<;>try exact b
 all_goals
  simp only[jF]
  split
  ·exact c _ _ _ _ _ ‹_›
  ·exact b
def Dm {id:Nat} {k v:Ty} {es:AS (Val k×Val v)}:∀(as:AS AV) {h:AS Blk},lkB h id=.map k v es->lkB (pY h as) id=.map k v es
 |[],_,b=>b
 |a::as,_,b=>Dm as (Je b)
def PC {t:TypeId} {k:Ty} (b:vl P t k=true) {x y:Val k} (e:kO k x y=true):x=y:=by
 rcases gu b with⟨_,rfl⟩|⟨j,_,rfl⟩
 ·simpa[kO] using e
 ·simpa[kO] using e
def Em {t:TypeId} {k:Ty} (b:vl P t k=true) (x:Val k) (m:Nat):Instr.sameBits m (keyVal k x) (keyVal k x)=true:=by
 rcases gu b with⟨_,rfl⟩|⟨j,_,rfl⟩<;>simp[Instr.sameBits,keyVal]
def ä.set {α β:Type} {R:α->β->Prop}:∀{l:AS α} {m:AS β} (i:Nat) {a:α} {b:β},ä R l m->R a b->ä R (l.set i a) (m.set i b)
 |[],[],_,_,_,_,_=>trivial
 |_::_,_::_,0,_,_,h,c=>⟨c,h.2⟩
 |_::_,_::_,i+1,_,_,h,c=>⟨h.1,ä.set i h.2 c⟩
 |[],_::_,_,_,_,h,_=>h.elim
 |_::_,[],_,_,_,h,_=>h.elim
def wd {t:TypeId} {m i x:AV} {um ui E:Value} (H:HR ν h w) (e:ţ P h t m i x some=some h') (hm:VR ν h w m um) (hi:VR ν h w i ui) (hx:VR ν h w x E) :
 ∃w',(Instr.mapUpdate t um ui E).run P w=.ok () w'/\HR ν h' w'/\Ev h.length ν h w ν h' w'/\h'.length=h.length:=by
 unfold ţ at e
 split at e<;>try (cases e; done)
 rename_i kt et ht
 split at e<;>try (cases e; done)
 rename_i id
 split at e<;>try (cases e; done)
 rename_i k v es hl
 split at e<;>try (cases e; done)
 rename_i hc;simp only[bu,beq_iff_eq] at hc;obtain⟨L,hnm,hagg⟩:=hc
 split at e<;>try (cases e; done)
 rename_i a cs ha hcs
 split at e<;>try (cases e; done)
 rename_i b hb;cases e;obtain⟨vs,z,rfl⟩:=uH hcs;obtain⟨hfe,hfm⟩:=Nd z h;have hcx:=hx.cells z;have hsn:=tW H (hcx.mono fun _ _ q=>q.1) (hfm hnm);obtain⟨e1,H1,hlv⟩:=rJ vs H;rw[hfe];have p:=Dm vs hl;have Z:=ü hb hsn
 have G:E=nJ v E.cells.toList:=by
  unfold nJ;rw[<-hagg]
  cases x with
  |agg l=>obtain⟨us,rfl,_⟩:=hx; rfl
  |any=>cases z
  |und=>cases z
  |tup=>cases z
  |_ =>
   rw[jz ((hx.one rfl rfl).oneCell z)]; rfl
 obtain⟨ho,k2,v2,es2,T,hmv⟩:=hm;rw[hl] at T; cases T;have hB:=H1.blk id;rw[p] at hB;obtain⟨N,f,u,h1,h2,h3,h4⟩:=hB;rw[hmv,h1];have hui:=uE L hi ha;subst hui
 have hE:Ents w (Av ν (pY h vs)) k v es f.toList:=by
  obtain⟨r,I,C⟩:=ents H1 (m:=.omp id) (um:=.map (some N)) (k:=k) (v:=v) (es:=es) L ⟨rfl,k,v,es,p,h1.symm⟩ (by simp only[ç,p]);cases I;rcases C with⟨C,_⟩|⟨b',en',cl',C,S,q4⟩
  ·cases C
  ·cases C;rw[h2] at S;cases S;exact q4
 obtain⟨d,hd,J⟩:=rh (P:=P) (t:=kt) (k:=k) L;have W:id<(pY h vs).length:=Ģ p (by simp)
 -- the map with other f
 have fin:∀(c:Array MapEntry) (o:Nat) (s:AS (Val k×Val v)),Ents w (Av ν (pY h vs)) k v s c.toList ->
  HR ν (Ú (pY h vs) id (.map k v s)) {w with heap:=w.heap.setIfInBounds N (.map c o)} /\
  Ev (pY h vs).length ν (pY h vs) w ν (Ú (pY h vs) id (.map k v s)) {w with heap:=w.heap.setIfInBounds N (.map c o)}:=by
  intro c o s hE';have K:=Õ h2
  have A:∀q,q<w.heap.size->((lkB (pY h vs) id).live=true->¬ć (ν id) q)->({w with heap:=w.heap.setIfInBounds N (.map c o)}:World).heap[q]?=w.heap[q]?:=fun q _ R=>by
   have:N≠q:=fun he=>R (by rw[p]; rfl) (by rw[h1,he]; rfl);simp[cf,this]
  have hV:(Blk.map k v s).live=true->∀q,ć (ν id) q->((lkB (pY h vs) id).live=true/\ć (ν id) q)\/w.heap.size<=q:=fun _ q R=>.inl ⟨by rw[p]; rfl,R⟩;have ev:=Ev.upd H1 (B:=.map k v s) (V:=ν id) (w':={w with heap:=w.heap.setIfInBounds N (.map c o)}) W rfl rfl rfl (by simp) A hV (by rw[p]; exact⟨⟨s,rfl⟩,Ç _ _ _⟩)
  have O:=HR.upd H1 W ev A hV ⟨N,c,o,(Ç _ _ _).trans h1,by simp[K],by simpa using hE'.length.symm,fun j q hj=>by
   obtain⟨m,I,C,us,S,q4⟩:=hE'.get hj;refine⟨m,us,by simpa using I,?_,CR.keep ev.keepA S,q4⟩
   rw[C]; exact MW L⟩
  rw[ω] at ev O;exact⟨O,ev⟩
 have Y:∀em,(Instr.checkKey em 10000 kt (keyVal k a)).run P w=.ok () w:=fun em=>vX (P:=P) (w:=w) (x:=a) (empty:=em) L 9999;rcases vv (J a) es f.toList 0 hE with⟨h5,h6⟩|⟨y,j,us,h5,h6,h7,h8,h9,e',h10,h11⟩
 ·rw[EQ h5]
  obtain⟨O,ev⟩:=fin (f.push {key:=keyVal k a,val:=E,born:=u}) (u+1) (es++[(a,b)]) (by
   rw[Array.toList_push]
   exact ä.append hE ⟨⟨rfl,_,Z,G⟩,trivial⟩)
  refine⟨_,?_,O,e1.trans ev (by rw[Ń]; exact bt _),by rw[Ê,Ń]⟩;simp only[Instr.mapUpdate,Sem.run_bind,run_underlying ht,Result.andThen_ok,Ŷ h2,Y];simp[Instr.findKey,run_underlying hd,h6,setObj,Sem.run,h2]
 ·rw[h9];obtain⟨m,I,C,us',S,q4⟩:=hE.get h10
  have q1':f[j]?=some m:=by simpa using I
  obtain⟨O,ev⟩:=fin (f.modify j fun e=>{e with key:=keyVal k a,val:=E}) u (es.set j (a,b)) (by
   rw[Array.toList_modify]
   have:(f.toList.modify j fun e=>{e with key:=keyVal k a,val:=E})=f.toList.set j {m with key:=keyVal k a,val:=E}:=by
    apply List.ext_getElem?
    intro q;rw[List.getElem?_modify,dO]
    by_cases R:j=q
    ·subst R;have K:=(bB.1 I).1;simp only[if_true,I,K];rfl
    ·simp[R]
   rw[this]
   exact ä.set j hE ⟨rfl,_,Z,G⟩)
  refine⟨_,?_,O,e1.trans ev (by rw[Ń]; exact bt _),by rw[Ê,Ń]⟩
  have U:m.key=keyVal k a:=by rw[C,<-PC L h11]
  simp only[Instr.mapUpdate,Sem.run_bind,run_underlying ht,Result.andThen_ok,Ŷ h2,Y];simp only[bX] at h6;have hsb:Instr.sameBits 10000 (keyVal k a) (keyVal k a)=true:=Em L a 10000;simp[Instr.findKey,run_underlying hd,h6,q1',U,Instr.keyThatStays,hsb,setObj,Sem.run,h2]
end
end Go.Am
end

noncomputable section
namespace Go.Am
variable [Globs] [É]
section
variable {ν ν':Nat->Value} {h h':AS Blk} {w w':World} {P:Program}
def Il {t:TypeId} {n o:Nat} {d:TypeDesc} (hd:P.underlying t=some d) (i:szP P t=some n) (us:Array Value) (k:Aa d=false->n=1) (l:o+n<=us.size) :
 (part t us o).run P w=.ok (Gw (Aa d) ((us.toList.drop o).take n)) w:=by
 unfold part;simp only[Sem.run_bind,nW hd,Result.andThen_ok]
 cases e:Aa d with
 |true =>
  simp only[if_true,Sem.run_bind,gd i,Result.andThen_ok,Sem.run_pure,Gw];congr 2;apply cX;rw[Array.toList_extract,List.extract_eq_take_drop];congr 1; omega
 |false =>
  have j:=k e;subst j
  have b:o<us.size:=by omega
  have c:us[o]?=some us[o]:=by simp[b]
  have f:us.toList.drop o=us[o]::us.toList.drop (o+1):=by
   rw[cI (by simpa using b)]; simp
  simp[c,Gw,f]
def RK:∀(n d:Nat) (t:TypeId) (cs O:AS AV) (rest:AN Bool) (r:Bool),n<=d->RL P n t cs O rest=some r ->
 ∃e c,rest=some c/\r=(e&&c)/\∃D,P.underlying t=some D/\(Aa D=false->cs.length=1)/\∀us ws,ä (VRc ν h w) cs us->ä (VRc ν h w) O ws->(Op.equalIn d t (Gw (Aa D) us) (Gw (Aa D) ws)).run P w=.ok e w:=by
 intro n
 induction n with
 |zero=>intro d t cs O rest r _ e; cases e
 |succ n ih =>
  intro d t cs O rest r hnd e;obtain⟨d,rfl⟩:∃d',d=d'+1:=⟨d-1,by omega⟩;unfold RL at e
  split at e<;>try (cases e; done)
  ·rename_i C
   split at e<;>try (cases e; done)
   rename_i a b
   split at e<;>try (cases e; done)
   rename_i c;cases e;refine⟨_,c,rfl,rfl,_,C,fun _=>rfl,fun us ws B h2=>?_⟩;obtain⟨u,rfl,L⟩:=B.one;obtain⟨v,rfl,K⟩:=h2.one;have p:u=.bool a:=L.1;have o:v=.bool b:=K.1;subst p o;exact run_equalIn_bool' w d t a b C
  ·rename_i i C
   split at e<;>try (cases e; done)
   rename_i k a k' b
   split at e<;>try (cases e; done)
   rename_i hk _;subst hk
   split at e<;>try (cases e; done)
   rename_i c;cases e;refine⟨_,c,rfl,rfl,_,C,fun _=>rfl,fun us ws B h2=>?_⟩;obtain⟨u,rfl,L⟩:=B.one;obtain⟨v,rfl,K⟩:=h2.one;have p:u=.int k a:=L.1;have o:v=.int k b:=K.1;subst p o;have:=run_equalIn_int w d t k i a b C
   rw[show(a==b)=decide (a=b) from by by_cases hab:a=b<;>simp[hab]] at this
   exact this
  ·rename_i fs C
   split at e<;>try (cases e; done)
   rename_i hst
   have R:∀(l:AS Field) (r:Bool),eqFs P (RL P n) cs O l rest=some r->∃e c,rest=some c/\r=(e&&c)/\∀us ws:Array Value,ä (VRc ν h w) cs us.toList->ä (VRc ν h w) O ws.toList->(Op.eqFields d us ws l).run P w=.ok e w:=by
    intro l
    induction l with
    |nil=>intro r e; exact⟨true,r,e,by simp,fun us ws _ _=>rfl⟩
    |cons f l H =>
     intro r e;unfold eqFs at e
     split at e
     ·rename_i T;obtain⟨e',c,B,h2,J⟩:=H r e;refine⟨e',c,B,h2,fun us ws A s=>?_⟩
      have : ¬ (f.name ≠ "_") := by simpa using T
      simp only[Op.eqFields,if_neg this];exact J us ws A s
     ·rename_i T
      split at e<;>try (cases e; done)
      rename_i m I
      split at e<;>try (cases e; done)
      rename_i x y hx hy;obtain⟨p,r1,B,h2,D,hD,U,J⟩:=ih d f.type x y _ r (by omega) e;obtain⟨o,r2,h4,h5,h6⟩:=H r1 B;refine⟨p&&o,r2,h4,by rw[h2,h5,Bool.and_assoc],fun us ws A s=>?_⟩;obtain⟨L,K⟩:=gZ hx;obtain⟨g3,g4⟩:=gZ hy
      have hnn : f.name ≠ "_" := by simpa using T
      have Y:∀{l:AS AV} {us:Array Value} {z:AS AV},ä (VRc ν h w) l us.toList->z=(l.drop f.offset).take m->z.length=m->f.offset+m<=us.size\/m=0:=fun {l us z} q p o=>by
       have:=q.length;rw[p] at o;simp at o this;omega
      have E:Aa D=false->m=1:=fun j=>by rw[<-K]; exact U j
      have rp:∀{l:AS AV} {us:Array Value} {z:AS AV},ä (VRc ν h w) l us.toList->z=(l.drop f.offset).take m->z.length=m->(part f.type us f.offset).run P w=.ok (Gw (Aa D) ((us.toList.drop f.offset).take m)) w:=fun {l us z} q p o=>by
       rcases Y q p o with j|j
       ·exact Il hD I us E j
       ·subst j
        have G:Aa D=true:=by cases hq:Aa D with
         |true=>rfl
         |false=>exact absurd (E hq) (by simp)
        unfold part;simp only[Sem.run_bind,nW hD,Result.andThen_ok,G,if_true,gd I,Sem.run_pure,Gw];congr 2;apply Array.ext';simp
      have p1:=rp A L K;have p2:=rp s g3 g4;have W:=J ((us.toList.drop f.offset).take m) ((ws.toList.drop f.offset).take m) (by rw[L]; exact(A.drop _).take _) (by rw[g3]; exact(s.drop _).take _);have V:=h6 us ws A s;simp only[Op.eqFields,if_pos hnn,Sem.run_bind,p1,p2,Result.andThen_ok,W]
      cases p with
      |true=>simp[V]
      |false=>simp
   obtain⟨e',c,B,h2,J⟩:=R _ r e;refine⟨e',c,B,h2,_,C,fun j=>by simp[Aa] at j,fun us ws A s=>?_⟩
   have j:P.fieldsOf t=fs:=by simp[Program.fieldsOf,C]
   show(Op.equalIn (d+1) t (.agg us.toArray) (.agg ws.toArray)).run P w=_;rw[run_equalIn_struct w d t _ _ (by rw[j]; exact C) hst,j];exact J us.toArray ws.toArray (by simpa using A) (by simpa using s)
  ·rename_i len Z C
   split at e<;>try (cases e; done)
   rename_i m I
   have R:∀(l:AS Nat) (r:Bool),eqIs P (RL P n) Z m cs O l rest=some r->∃e c,rest=some c/\r=(e&&c)/\∀us ws:Array Value,ä (VRc ν h w) cs us.toList->ä (VRc ν h w) O ws.toList->(Op.eqItems d Z m us ws l).run P w=.ok e w:=by
    intro l
    induction l with
    |nil=>intro r e; exact⟨true,r,e,by simp,fun us ws _ _=>rfl⟩
    |cons i l H =>
     intro r e;unfold eqIs at e
     split at e<;>try (cases e; done)
     rename_i x y hx hy;obtain⟨p,r1,B,h2,D,hD,U,J⟩:=ih d Z x y _ r (by omega) e;obtain⟨o,r2,h4,h5,h6⟩:=H r1 B;refine⟨p&&o,r2,h4,by rw[h2,h5,Bool.and_assoc],fun us ws A s=>?_⟩;obtain⟨L,K⟩:=gZ hx;obtain⟨g3,g4⟩:=gZ hy
     have Y:∀{l:AS AV} {us:Array Value} {z:AS AV},ä (VRc ν h w) l us.toList->z=(l.drop (i*m)).take m->z.length=m->(i*m)+m<=us.size\/m=0:=fun {l us z} q p o=>by
      have:=q.length;rw[p] at o;simp at o this;omega
     have E:Aa D=false->m=1:=fun j=>by rw[<-K]; exact U j
     have rp:∀{l:AS AV} {us:Array Value} {z:AS AV},ä (VRc ν h w) l us.toList->z=(l.drop (i*m)).take m->z.length=m->(part Z us (i*m)).run P w=.ok (Gw (Aa D) ((us.toList.drop (i*m)).take m)) w:=fun {l us z} q p o=>by
      rcases Y q p o with j|j
      ·exact Il hD I us E j
      ·subst j
       have G:Aa D=true:=by cases hq:Aa D with
        |true=>rfl
        |false=>exact absurd (E hq) (by simp)
       unfold part;simp only[Sem.run_bind,nW hD,Result.andThen_ok,G,if_true,gd I,Sem.run_pure,Gw];congr 2;apply Array.ext';simp
     have p1:=rp A L K;have p2:=rp s g3 g4;have W:=J ((us.toList.drop (i*m)).take m) ((ws.toList.drop (i*m)).take m) (by rw[L]; exact(A.drop _).take _) (by rw[g3]; exact(s.drop _).take _);have V:=h6 us ws A s;simp only[Op.eqItems,Sem.run_bind,p1,p2,Result.andThen_ok,W]
     cases p with
     |true=>simp[V]
     |false=>simp
   obtain⟨e',c,B,h2,J⟩:=R _ r e;refine⟨e',c,B,h2,_,C,fun j=>by simp[Aa] at j,fun us ws A s=>?_⟩
   obtain⟨S,N,hsz⟩:∃S,P.info? Z=some S/\S.size=m:=by
    unfold szP at I
    split at I
    ·cases I; exact⟨_,‹_›,rfl⟩
    ·cases I
   have hco:P.cellsOf Z=m:=by simp[Program.cellsOf,N,hsz]
   show(Op.equalIn (d+1) t (.agg us.toArray) (.agg ws.toArray)).run P w=_;rw[run_equalIn_array w d us.toArray ws.toArray C N,hco];exact J us.toArray ws.toArray (by simpa using A) (by simpa using s)
def P8 {op:BinOp} {t:TypeId} {x y v:AV} {j i:Value} (X Y:Operand) (H:HR ν h w) (e:binK P op t x y some=some v) (A:VR ν h w x j) (z:VR ν h w y i) :
 ħ P ν h w (do eqGuard op t X Y j i; binOp op t j i) v h:=by
 unfold binK at e
 split at e
 ·rename_i k a B b;have f:j=.int k a:=A;have h2:i=.int B b:=z;subst f h2
  split at e
  ·rename_i l C
   have c:(eqGuard op t X Y (.int k a) (.int B b)).run P w=.ok () w:=by cases op<;>simp[eqGuard]
   unfold shK at e
   split at e<;>try (cases e; done)
   rename_i hb
   have hb:¬b<0:=by have:=of_decide_eq_true hb; omega
   split at e
   ·cases e;refine ħ.still H (u:=.int k (shlI k a b)) ?_ rfl;rw[Sem.run_bind,c,Result.andThen_ok]
    cases op<;>simp only[Hu,Option.some.injEq,reduceCtorEq] at C
    simp[binOp,Op.shift,hb,shlI]
   ·cases e;refine ħ.still H (u:=.int k (shrI k a b)) ?_ rfl;rw[Sem.run_bind,c,Result.andThen_ok]
    cases op<;>simp only[Hu,Option.some.injEq,reduceCtorEq] at C
    simp[binOp,Op.shift,hb,shrI]
  rename_i J
  split at e<;>try (cases e; done)
  rename_i L _;subst L
  have c:(eqGuard op t X Y (.int k a) (.int k b)).run P w=.ok () w:=by cases op<;>simp[eqGuard]
  split at e
  ·rename_i r d;cases e;refine ħ.still H (u:=.bool r) ?_ rfl;rw[Sem.run_bind,c,Result.andThen_ok]
   cases op<;>simp only[cmpI,reduceCtorEq,Option.some.injEq] at d<;>subst d<;>simp[binOp,Op.intCmp]
  ·split at e
   ·rename_i r d;rw[DP e];refine ħ.still H (u:=.int k (k.wrap r)) ?_ rfl;rw[Sem.run_bind,c,Result.andThen_ok]
    cases op<;>simp only[arI,reduceCtorEq,Option.some.injEq] at d<;>subst d<;>simp[binOp,Op.intArith]
   ·split at e<;>try (cases e; done)
    ·split at e<;>try (cases e; done)
     rename_i hb
     have hb:¬b=0:=by simpa using hb
     rw[DP e];refine ħ.still H (u:=.int k (k.wrap (a.tdiv b))) ?_ rfl;rw[Sem.run_bind,c,Result.andThen_ok];simp[binOp,Op.intDiv,hb]
    ·split at e<;>try (cases e; done)
     rename_i hb
     have hb:¬b=0:=by simpa using hb
     cases e;refine ħ.still H (u:=.int k (a.tmod b)) ?_ rfl;rw[Sem.run_bind,c,Result.andThen_ok];simp[binOp,Op.intDiv,hb]
    ·cases e;refine ħ.still H (u:=.int k (andI k a b)) ?_ rfl;rw[Sem.run_bind,c,Result.andThen_ok];simp[binOp,Op.intBits,andI,QR]
    ·cases e;refine ħ.still H (u:=.int k (orI k a b)) ?_ rfl;rw[Sem.run_bind,c,Result.andThen_ok];simp[binOp,Op.intBits,orI,QR]
    ·cases e;refine ħ.still H (u:=.int k (xorI k a b)) ?_ rfl;rw[Sem.run_bind,c,Result.andThen_ok];simp[binOp,Op.intBits,xorI,QR]
    ·cases e;refine ħ.still H (u:=.int k (HU k a b)) ?_ rfl;rw[Sem.run_bind,c,Result.andThen_ok];simp[binOp,Op.intBits,HU,QR]
 ·rename_i a b;have f:j=.bool a:=A;have h2:i=.bool b:=z;subst f h2
  split at e<;>try (cases e; done)
  rename_i I
  have c:(eqGuard op t X Y (.bool a) (.bool b)).run P w=.ok () w:=by cases op<;>simp[eqGuard]
  have E:(Op.equalIn 10000 t (.bool a) (.bool b)).run P w=.ok (a==b) w:=run_equalIn_bool' w 9999 t a b I
  split at e<;>try (cases e; done)
  ·cases e;refine ħ.still H (u:=.bool (a==b)) ?_ rfl;rw[Sem.run_bind,c,Result.andThen_ok];simp[binOp,Op.equal,Op.maxDepth,E]
  ·cases e;refine ħ.still H (u:=.bool (!(a==b))) ?_ rfl;rw[Sem.run_bind,c,Result.andThen_ok];simp[binOp,Op.equal,Op.maxDepth,E]
 ·rename_i a b;have f:j=.string a:=A;have h2:i=.string b:=z;subst f h2
  have c:(eqGuard op t X Y (.string a) (.string b)).run P w=.ok () w:=by cases op<;>simp[eqGuard]
  split at e<;>try (cases e; done)
  ·cases e;refine ħ.still H (u:=.bool (a.toList==b.toList)) ?_ rfl;rw[Sem.run_bind,c,Result.andThen_ok];simp[binOp,Op.stringOp]
  ·cases e;refine ħ.still H (u:=.bool (!(a.toList==b.toList))) ?_ rfl;rw[Sem.run_bind,c,Result.andThen_ok];simp[binOp,Op.stringOp]
  ·split at e<;>try (cases e; done)
   rename_i o;cases e;have o:=of_decide_eq_true o;refine ħ.still H (u:=.string (a++b)) ?_ rfl
   have K:¬(((a.size+b.size:Nat):Int)>IntKind.i64.max):=by
    have:IntKind.i64.max=9223372036854775807:=by decide
    omega
   rw[Sem.run_bind,c,Result.andThen_ok];show(Op.stringOp .add a b).run P w=_;unfold Op.stringOp;dsimp only;rw[if_neg K];rfl
 ·rename_i cs T;obtain⟨us,rfl,f⟩:=A;obtain⟨ws,rfl,h2⟩:=z
  split at e<;>try (cases e; done)
  rename_i m
  split at e<;>try (cases e; done)
  rename_i p
  split at e<;>try (cases e; done)
  rename_i r d;obtain⟨V,U,S,G,D,O,N,R⟩:=RK (ν:=ν) (h:=h) (w:=w) 8 10000 t cs T _ r (by omega) d;cases S;rw[Bool.and_true] at G;subst G;have s:=R us.toList ws.toList f h2
  have q:Aa D=true:=by rw[O] at m; cases D<;>first|rfl|(simp[aggT] at m; done)
  rw[q] at s
  have s:(Op.equalIn 10000 t (.agg us) (.agg ws)).run P w=.ok r w:=by simpa[Gw] using s
  split at e<;>try (cases e; done)
  ·cases e;refine ħ.still H (u:=.bool r) ?_ rfl;rw[Sem.run_bind,run_eqGuard_agg w _ t X Y us ws p,Result.andThen_ok,run_eql_struct,s]; rfl
  ·cases e;refine ħ.still H (u:=.bool (!r)) ?_ rfl;rw[Sem.run_bind,run_eqGuard_agg w _ t X Y us ws p,Result.andThen_ok,run_neq_struct,s]; rfl
 ·cases e
def ifc_ok {op:BinOp} {t:TypeId} {x v:AV} {c:Value} (X:Operand) (H:HR ν h w) (e:ifcK P op t x some=some v) (l:VR ν h w x c) :
 ħ P ν h w (do eqGuard op t X (.const .nilIface) c .nilIface; binOp op t c .nilIface) v h:=by
 unfold ifcK at e
 split at e<;>try (cases e; done)
 rename_i ms k
 split at e<;>try (cases e; done)
 rename_i a;obtain⟨o,h0,m⟩:=l
 have f:∀b:Bool,a=b->(Op.equal t c .nilIface).run P w=.ok (!b) w/\(eqGuard op t X (.const .nilIface) c .nilIface).run P w=.ok () w:=by
  intro b hb
  cases b with
  |false =>
   rw[h0 hb];refine⟨?_,?_⟩
   ·show(Op.equalIn (9999+1) t .nilIface .nilIface).run P w=_;generalize 9999=n;rw[Op.equalIn,Sem.run_bind,run_underlying k]; rfl
   ·cases op<;>first|rfl|(cases X<;>rfl)
  |true =>
   obtain⟨tx,u,rfl⟩:=m hb;refine⟨?_,?_⟩
   ·show(Op.equalIn (9999+1) t (.iface tx u) .nilIface).run P w=_;generalize 9999=n;rw[Op.equalIn,Sem.run_bind,run_underlying k]; rfl
   ·cases op<;>rfl
 obtain⟨j,i⟩:=f a rfl
 have d:∀op:BinOp,(op=.eql->binOp op t c .nilIface=(do pure (.bool (<-Op.equal t c .nilIface))))/\(op=.neq->binOp op t c .nilIface=(do pure (.bool !(<-Op.equal t c .nilIface)))):=fun op=>by
  constructor
  ·rintro rfl; cases c<;>rfl
  ·rintro rfl; cases c<;>rfl
 split at e<;>try (cases e; done)
 ·cases e;refine ħ.still H (u:=.bool (!a)) ?_ rfl;rw[Sem.run_bind,i,Result.andThen_ok,(d _).1 rfl,Sem.run_bind,j];rfl
 ·cases e;refine ħ.still H (u:=.bool a) ?_ rfl;rw[Sem.run_bind,i,Result.andThen_ok,(d _).2 rfl,Sem.run_bind,j];simp
def Ll {op:UnOp} {x v:AV} {c:Value} (H:HR ν h w) (d:VR ν h w x c)
 (e:(match op,x with|.not,.bool b=>some (AV.bool (!b))|.neg,.int k n=>arK k (0-n) some|_,_=>none)=some v):ħ P ν h w (Op.unary op c) v h:=by
 split at e<;>try (cases e; done)
 ·cases e;rename_i b d;have:c=.bool b:=d;subst this;exact ħ.still H rfl rfl
 ·rename_i k n d;have:c=.int k n:=d;subst this;rw[DP e];exact ħ.still H (u:=.int k (k.wrap (0-n))) rfl rfl
end
end Go.Am
end

noncomputable section
namespace Go.Am
variable [Globs] [É]
section
variable {ν ν':Nat->Value} {h h':AS Blk} {w w':World} {P:Program}
def Bb (b:AV):∀(as:AS AV) (h:AS Blk),ç (pY h as) b=ç h b
 |[],_=>rfl
 |a::as,h=>by rw[pY,Bb b as,uI]
def qe.mono {av c:Nat->Prop} (e:∀b,c b->av b) {t:Ty} {xs:AS (Val t)} {news:AS Value} (d:qe w av t xs news):qe w c t xs news :=
 ⟨d.1,fun i x hi=>CR.mono e (d.2 i x hi)⟩
def zh {a:AV} {id:Nat} {h:AS Blk} (b:lkB h id=.dead):lkB (jF h a) id=.dead:=by
 have c:∀(j g:Nat) (t:Ty) (fz:Bool) (xs:AS (Val t)),lkB h j=.row t g fz xs->lkB (Ú h j (.row t g true xs)) id=.dead:=fun j g t fz xs d=>by
  by_cases e:id=j
  ·subst e; rw[b] at d; cases d
  ·rw[È _ e]; exact b
 cases a<;>try exact b
 all_goals
  simp only[jF]
  split
  ·exact c _ _ _ _ _ ‹_›
  ·exact b
def zc {id:Nat}:∀(as:AS AV) {h:AS Blk},lkB h id=.dead->lkB (pY h as) id=.dead
 |[],_,b=>b
 |_::as,_,b=>zc as (zh b)
def Jb {v:AV} {id:Nat} {h:AS Blk} (b:lkB h id=.dead):lkB (frz h v) id=.dead:=by
 unfold frz; split
 ·exact zc _ b
 ·exact zh b
def zd {id:Nat}:∀(ps:AS (Nat×AV)) {h:AS Blk},lkB h id=.dead->lkB (frzA h ps) id=.dead
 |[],_,b=>b
 |(_,_)::ps,_,b=>zd ps (Jb b)
def Ip {h0:AS Blk} {ty:Ty}:∀(ps:AS (Nat×AV)) (us:AS (Nat×Value)) (k:Nat) (c:Array Value) (xs:AS (Val ty)) (h:AS Blk),(∀b,ç h b=ç h0 b)->HR ν h w->Ac h0 ty k ps=some xs ->
 ä (fun(a:Nat×AV) (b:Nat×Value)=>a.1=b.1/\VR ν h w a.2 b.2) ps us->(k+ps.length)*ty.size<=c.size ->
 ∃c' news,Instr.fill (fun i=>some (i*ty.size,ty.size)) c us=some c'/\c'.toList=c.toList.take (k*ty.size)++news++c.toList.drop ((k+ps.length)*ty.size)/\qe w (Av ν (frzA h ps)) ty xs news/\xs.length=ps.length /\
  Ev h.length ν h w ν (frzA h ps) w/\HR ν (frzA h ps) w/\(∀b,Av ν (frzA h ps) b->Av ν h b)/\(frzA h ps).length=h.length
 |[],[],k,c,xs,h,l,H,e,_,_=>by
  cases e;exact⟨c,[],rfl,by simp,⟨by simp,fun i x hi=>by simp at hi⟩,rfl,Ev.refl _ _ _ _,H,fun _ hb=>hb,rfl⟩
 |[],_::_,_,_,_,_,_,_,_,d,_=>d.elim
 |_::_,[],_,_,_,_,_,_,_,d,_=>d.elim
 |(i,v)::ps,(j,u)::us,k,c,xs,h,l,H,e,d,W=>by
  obtain⟨⟨C,r⟩,d⟩:=d;simp only at C r; subst C;simp only[Ac] at e
  split at e<;>try (cases e; done)
  rename_i B;simp only[bu,beq_iff_eq] at B;obtain⟨rfl,J⟩:=B
  split at e<;>try (cases e; done)
  rename_i cs R
  split at e<;>try (cases e; done)
  rename_i x V
  split at e<;>try (cases e; done)
  rename_i xs' G;cases e;obtain⟨vs,s,rfl⟩:=uH R;obtain⟨N,L⟩:=Nd s h;have O:=r.cells s;have S:=tW H (O.mono fun _ _ q=>q.1) (L J);have z:vs.map (ç h)=vs.map (ç h0):=cM fun b _=>l b;rw[z] at S;have p:=ü V S;obtain⟨U,H1,K⟩:=rJ vs H;simp only[frzA,N]
  have f:u.cells.size=ty.size:=by have:=p.length; simpa using this
  have A:(i+1+ps.length)*ty.size<=c.size:=by rw[show i+1+ps.length=i+(ps.length+1) by omega]; simpa using W
  have hi:i*ty.size+ty.size<=c.size:=by
   have:=bV ty.size (show i+1<=i+1+ps.length by omega);rw[bQ i 1,dl] at this;omega
  have o:u.cells.toList.length=ty.size:=by simpa using f
  have E:(c.toList.take (i*ty.size)++u.cells.toList++c.toList.drop (i*ty.size+ty.size)).toArray.size=c.size:=by
   simp only[dh,bz,bU,dt,dk,o]; omega
  obtain⟨c',news,h1,h2,h3,h4,h5,Z,T,Y⟩:=Ip ps us (i+1) (c.toList.take (i*ty.size)++u.cells.toList++c.toList.drop (i*ty.size+ty.size)).toArray xs' (pY h vs)
   (fun b=>(Bb b vs h).trans (l b)) H1 G (d.mono fun _ _ q=>⟨q.1,q.2.ev U⟩) (by rw[E]; exact A)
  refine⟨c',u.cells.toList++news,?_,?_,?_,by simp[h4],U.trans h5 (by rw[Ń]; exact bt _),Z,fun b hb=>K b (T b hb),by rw[Y,Ń]⟩
  ·rw[oK rfl f hi]; exact h1
  ·rw[h2]
   have a1:(c.toList.take (i*ty.size)++u.cells.toList++c.toList.drop (i*ty.size+ty.size)).take ((i+1)*ty.size)=c.toList.take (i*ty.size)++u.cells.toList:=by
    have m:(c.toList.take (i*ty.size)++u.cells.toList).length=(i+1)*ty.size:=by
     rw[bz,bU,dk,o,bQ,dl]; omega
    rw[<-m,List.take_left]
   have a2:(c.toList.take (i*ty.size)++u.cells.toList++c.toList.drop (i*ty.size+ty.size)).drop ((i+1+ps.length)*ty.size)=c.toList.drop ((i+(ps.length+1))*ty.size):=by
    have m:(c.toList.take (i*ty.size)++u.cells.toList).length=i*ty.size+ty.size:=by
     rw[bz,bU,dk,o]; omega
    rw[show(i+1+ps.length)*ty.size=(c.toList.take (i*ty.size)++u.cells.toList).length+ps.length*ty.size by rw[m,bQ,bQ,dl],<-eD,List.drop_left,eD];congr 1;rw[bQ,bQ,dl]; omega
   show(List.take ((i+1)*ty.size) _++news++List.drop ((i+1+ps.length)*ty.size) _)=_;rw[a1,a2];simp
  ·have t:qe w (Av ν (frzA (pY h vs) ps)) ty [x] u.cells.toList:=⟨by simp[f],fun q y I=>by
    cases q with
    |zero =>
     simp at I; subst I;simp only[Nat.zero_mul,List.drop_zero];rw[cG (by omega)];exact CR.mono T p
    |succ q=>simp at I⟩
   exact t.append h3
def DH {S:St} {a:Act} {nid n:Nat} {t e:TypeId} {ty:Ty} {ps:Array (Nat×Operand)} {xs:AS (Val ty)} (H:Sim ν S a w) (u:nid<S.h.length) (hd:lkB S.h nid=.dead) (L:vy P t=some e)
 (d:wE P e ty.size=true) (f:ps.toList.length=n) (y:n*ty.size<=65536) (G:Ac S.h ty 0 (ps.toList.map fun p=>(p.1,ev S.t p.2))=some xs) :
 ħ P ν S.h w (Instr.buildSlice t n (ps.map fun(i,x)=>(i,a.eval x))) (.own nid 0) (Ú (frzA S.h (ps.toList.map fun p=>(p.1,ev S.t p.2))) nid (.row ty 0 false xs)):=by
 obtain⟨i,z,hi,m,s,N,E,C⟩:=fj d;have I:=ž L
 have q:((Array.range (n*ty.size)).map (fun j=>(if n*ty.size=0 then(#[]:Array Value) else z.cells)[j % (if n*ty.size=0 then(#[]:Array Value) else z.cells).size]!)).size=n*ty.size:=by simp
 obtain⟨c',news,T,h2,B,r,R,O,U,l⟩:=Ip (ν:=ν) (w:=w) (h0:=S.h) _ (ps.toList.map fun p=>(p.1,a.eval p.2)) 0 ((Array.range (n*ty.size)).map (fun j=>(if n*ty.size=0 then(#[]:Array Value) else z.cells)[j % (if n*ty.size=0 then(#[]:Array Value) else z.cells).size]!)) xs S.h (fun _=>rfl) H.heap G (si H ps.toList)
  (by rw[q]; simp only[cw]; rw[f,bX]; exact bt _)
 rw[cw,f] at h2 r
 have k:c'.toList=news:=by
  rw[h2];simp
 have o:lkB (frzA S.h (ps.toList.map fun p=>(p.1,ev S.t p.2))) nid=.dead:=zd _ hd
 have b:=uJ (w':=w.alloc (.cells c' e)) O (id:=nid) (g':=0) (xs':=xs) (cap':=n) (by rw[l]; exact u) (fun V=>by rw[o]; trivial) rfl rfl rfl rfl (by omega) (by
  have:c'.size=news.length:=by rw[<-k]; simp
  rw[this,B.1,r]; exact bt _) B (fun j v A=>by rw[<-k] at A; simpa using A)
 rw[r] at b;refine⟨_,_,_,?_,oc (by rw[l]; exact u) rfl,b.2,(R.trans b.1 (by rw[l]; exact bt _)),by rw[Ê,l]⟩
 have J:(ps.map fun(x:Nat×Operand)=>(x.1,a.eval x.2)).toList=ps.toList.map fun p=>(p.1,a.eval p.2):=by simp
 have K:¬(16777216<n*ty.size):=by omega
 have c:Instr.fill (fun i=>some (i*ty.size,ty.size)) ((Array.range (n*ty.size)).map (fun j=>(if n*ty.size=0 then(#[]:Array Value) else z.cells)[j % (if n*ty.size=0 then(#[]:Array Value) else z.cells).size]!)) (ps.map fun(x:Nat×Operand)=>(x.1,a.eval x.2)).toList=some c':=by rw[J]; exact T
 simp only[Instr.buildSlice,Sem.run_bind,run_underlying I,Result.andThen_ok,sizeOf,typeInfo,run_program,hi,Sem.run_pure,m];rw[show(2:Nat) ^ 24=16777216 from rfl,if_neg (by omega:¬n*ty.size>16777216)]
 by_cases h0:n*ty.size=0
 ·simp only[h0,if_true,Sem.run_bind,Sem.run_pure,Result.andThen_ok] at c ⊢
  erw [c]
  simp[newRow]
 ·simp only[h0,if_false,Sem.run_bind,zeroValue,typeInfo,run_program,hi,E,Sem.run_pure,Result.andThen_ok] at c ⊢
  erw [c]
  simp[newRow]
end
end Go.Am
end

noncomputable section
namespace Go.Am
variable [Globs] [É]
section
variable {ν ν':Nat->Value} {h h':AS Blk} {w w':World} {P:Program}
def upd2 (H:HR ν h w) {i j:Nat} {A B:Blk} {U V:Value} (L:i≠j) (hi:i<h.length) (hj:j<h.length) (Z:w'.os=w.os) (z:w'.tape=w.tape) (K:w'.output=w.output)
 (o:w.heap.size<=w'.heap.size)
 (s:∀b,b<w.heap.size->((lkB h i).live=true->¬ć (ν i) b)->((lkB h j).live=true->¬ć (ν j) b)->w'.heap[b]?=w.heap[b]?)
 (hU:A.live=true->∀b,ć U b->((lkB h i).live=true/\ć (ν i) b)\/((lkB h j).live=true/\ć (ν j) b)\/w.heap.size<=b)
 (hV:B.live=true->∀b,ć V b->((lkB h i).live=true/\ć (ν i) b)\/((lkB h j).live=true/\ć (ν j) b)\/w.heap.size<=b)
 (x:A.live=true->B.live=true->∀b,ć U b->ć V b->False)
 (hni:(lkB h i).next ν (Ü (Ü ν i U) j V) i A) (hnj:(lkB h j).next ν (Ü (Ü ν i U) j V) j B)
 (hbi:Ev h.length ν h w (Ü (Ü ν i U) j V) (Ú (Ú h i A) j B) w'->BR (Ü (Ü ν i U) j V) (Ú (Ú h i A) j B) w' i A)
 (hbj:Ev h.length ν h w (Ü (Ü ν i U) j V) (Ú (Ú h i A) j B) w'->BR (Ü (Ü ν i U) j V) (Ú (Ú h i A) j B) w' j B) :
 Ev h.length ν h w (Ü (Ü ν i U) j V) (Ú (Ú h i A) j B) w'/\HR (Ü (Ü ν i U) j V) (Ú (Ú h i A) j B) w':=by
 have J:lkB (Ú (Ú h i A) j B) i=A:=by rw[È _ L,Ð _ hi]
 have I:lkB (Ú (Ú h i A) j B) j=B:=Ð _ (by rw[Ê]; exact hj)
 have lo:∀{m},m≠i->m≠j->lkB (Ú (Ú h i A) j B) m=lkB h m:=fun c h2=>by rw[È _ h2,È _ c]
 have W:Ü (Ü ν i U) j V i=U:=by rw[ê _ _ L,Ç]
 have T:Ü (Ü ν i U) j V j=V:=Ç _ _ _
 have y:∀{m},m≠i->m≠j->Ü (Ü ν i U) j V m=ν m:=fun c h2=>by rw[ê _ _ h2,ê _ _ c]
 -- who owns a block now owned it, or it is new
 have own:∀m b,(lkB (Ú (Ú h i A) j B) m).live=true->ć (Ü (Ü ν i U) j V m) b ->
  (∃q,(lkB h q).live=true/\ć (ν q) b/\(q=m\/((q=i\/q=j)/\(m=i\/m=j))))\/(w.heap.size<=b/\(m=i\/m=j)):=by
  intro m b f hb
  by_cases c:m=i
  ·subst c;rw[J] at f; rw[W] at hb;rcases hU f b hb with h2|h2|h2
   ·exact .inl ⟨m,h2.1,h2.2,.inl rfl⟩
   ·exact .inl ⟨j,h2.1,h2.2,.inr ⟨.inr rfl,.inl rfl⟩⟩
   ·exact .inr ⟨h2,.inl rfl⟩
  ·by_cases h2:m=j
   ·subst h2;rw[I] at f; rw[T] at hb;rcases hV f b hb with h2|h2|h2
    ·exact .inl ⟨i,h2.1,h2.2,.inr ⟨.inl rfl,.inr rfl⟩⟩
    ·exact .inl ⟨m,h2.1,h2.2,.inl rfl⟩
    ·exact .inr ⟨h2,.inr rfl⟩
   ·rw[lo c h2] at f; rw[y c h2] at hb;exact .inl ⟨m,f,hb,.inl rfl⟩
 have ev:Ev h.length ν h w (Ü (Ü ν i U) j V) (Ú (Ú h i A) j B) w':=by
  refine⟨Z,z,K,o,fun b hb l=>⟨s b hb (fun f N=>l ⟨i,f,N⟩) (fun f N=>l ⟨j,f,N⟩),?_⟩,fun m p=>?_⟩
  ·rintro⟨m,f,N⟩;rcases own m b f N with⟨q,c,h2,_⟩|⟨c,_⟩
   ·exact l ⟨q,c,h2⟩
   ·omega
  ·by_cases c:m=i
   ·subst c; rw[J]; exact hni
   ·by_cases h2:m=j
    ·subst h2; rw[I]; exact hnj
    ·rw[lo c h2]
     cases hB:lkB h m with
     |dead=>trivial
     |cells cs=>exact⟨⟨cs,rfl⟩,y c h2⟩
     |row t g fz xs=>exact⟨g,fz,xs,rfl,bt _,fun _=>⟨y c h2,rfl⟩⟩
     |map k v es=>exact⟨⟨es,rfl⟩,y c h2⟩
     |deep k g xss=>exact⟨g,xss,rfl,bt _,fun _=>⟨y c h2,rfl⟩⟩
     |acc t xs=>exact⟨xs,rfl⟩
     |fns es=>exact⟨⟨es,rfl⟩,y c h2⟩
 refine⟨ev,fun m=>?_,fun m n b p l e d=>?_,fun b hb=>bH (H.ghlt b hb) o,fun m b f hb hg=>?_,H.globE ev,H.globLE ev⟩
 ·by_cases c:m=i
  ·subst c; rw[J]; exact hbi ev
  ·by_cases h2:m=j
   ·subst h2; rw[I]; exact hbj ev
   ·rw[lo c h2];refine BR.ev ev (H.nd ev) (H.gl ev) (y c h2) (fun b f hb hlt=>s b hlt (fun C E=>c (H.inj m i b f C hb E)) (fun C E=>h2 (H.inj m j b f C hb E))) (H.blk m)
 ·-- one owner alone
  have hd:∀{m n b},(m=i\/m=j)->(n=i\/n=j)->(lkB (Ú (Ú h i A) j B) m).live=true->(lkB (Ú (Ú h i A) j B) n).live=true->ć (Ü (Ü ν i U) j V m) b->ć (Ü (Ü ν i U) j V n) b->m=n:=by
   intro m n b c h2 p l e d
   rcases c with rfl|rfl<;>rcases h2 with rfl|rfl
   ·rfl
   ·rw[J] at p; rw[I] at l; rw[W] at e; rw[T] at d;exact(x p l b e d).elim
   ·rw[I] at p; rw[J] at l; rw[T] at e; rw[W] at d;exact(x l p b d e).elim
   ·rfl
  rcases own m b p e with⟨q,c,h2,S⟩|⟨c,S⟩
  ·rcases own n b l d with⟨r,O,h5,u⟩|⟨O,u⟩
   ·have Y:=H.inj q r b c O h2 h5;subst Y;rcases S with rfl|⟨S,R⟩
    ·rcases u with rfl|⟨u,G⟩
     ·rfl
     ·exact hd u G p l e d
    ·rcases u with rfl|⟨u,G⟩
     ·exact hd R S p l e d
     ·exact hd R G p l e d
   ·have:=H.lt ⟨q,c,h2⟩; omega
  ·rcases own n b l d with⟨r,O,h5,u⟩|⟨O,u⟩
   ·have:=H.lt ⟨r,O,h5⟩; omega
   ·exact hd S u p l e d
 ·rcases own m b f hb with⟨q,c,h2,_⟩|⟨c,_⟩
  ·exact H.ghne q b c h2 hg
  ·have:=H.ghlt b hg; omega
def kG {l:AS Value} {b:Nat}:ć (.agg l.toArray) b↔∃u∈l,Χ u=some b:=by
 show(∃u∈l.toArray.toList,Χ u=some b)↔_;simp
def O7 {k:IntKind} {xss:AS (AS Int)} {us:AS Value} (h:ä (HW w k) xss us):∀u∈us,u.oneCell'=true:=by
 intro u b;obtain⟨i,hi,rfl⟩:=bK.1 b;obtain⟨xs,_,base,cap,e,_⟩:=h.get' (br hi);rw[e]; rfl
def LF {k:IntKind} {xss:AS (AS Int)} {us:AS Value} (h:ä (HW w k) xss us):∀u∈us,∀b,Χ u=some b->b<w.heap.size:=by
 intro u f b hb;obtain⟨i,hi,rfl⟩:=bK.1 f;obtain⟨xs,_,base,cap,e,_,d⟩:=h.get' (br hi);rw[e] at hb;rcases d with⟨rfl,_⟩|⟨l,off,c,j,rfl,d,_⟩
 ·cases hb
 ·cases hb; exact Õ d
def PS (H:HR ν h w) {nid id g n:Nat} {t e:TypeId} {k:IntKind} {xs:AS Int} {i:TypeInfo} {z:Value} (r:nid<h.length) (hd:lkB h nid=.dead) (ht:P.underlying t=some (.slice e)) (hi:P.info? e=some i) (L:i.size=1) (hz:i.zero=some z) (hzs:z.cells.size=1)
 (s:lkB h id=.row (.int k) g false xs) (hn:n=1) {T:Value} (K:T=ν id) :
 ħ P ν h w (Instr.buildSlice t n #[(0,T)]) (.dp nid 0) (Ú (Ú h id (.row (.int k) (g+1) false [])) nid (.deep k 0 [xs])):=by
 subst hn
 have E:id≠nid:=fun e=>by rw[e,hd] at s; cases s
 have N:id<h.length:=Ģ s (by simp);have hB:=H.blk id;rw[s] at hB;obtain⟨base,cap,I,h2,p⟩:=hB
 have l:(lkB h id).live=true:=by rw[s]; rfl
 have R:(base=none/\cap=0)\/∃b off c e,base=some ⟨b,off,none⟩/\w.heap[b]?=some (.cells c e (0,0))/\off+cap<=c.size/\∀(j:Nat) (x:Int),xs[j]?=some x->c[off+j]?=some (.int k x):=by
  rcases p with p|⟨b,off,c,S,p,G,O,h6⟩
  ·exact .inl p
  ·refine .inr ⟨b,off,c,S,p,G,by simpa[Ty.size] using O,fun j x hx=>?_⟩;obtain⟨us,q1,q2⟩:=h6 j x hx;have J:us=[.int k x]:=q1;subst J;have:=q2 0 _ rfl;simp only[World.cell?,G] at this;simpa[Ty.size] using this
 have q:(ν id).oneCell'=true:=by rw[I]; rfl
 have d:(w.alloc (.cells #[ν id] e)).heap=w.heap.push (.cells #[ν id] e (0,0)):=rfl
 have f:∀b,b<w.heap.size->(w.alloc (.cells #[ν id] e)).heap[b]?=w.heap[b]?:=fun b hb=>by rw[d,cJ]; simp[dz hb]
 obtain⟨ev,hr⟩:=upd2 (w':=w.alloc (.cells #[ν id] e)) (A:=.row (.int k) (g+1) false []) (B:=.deep k 0 [xs]) (U:=.slice none 0 0) (V:=.agg [Value.slice (some ⟨w.heap.size,0,none⟩) 1 1,ν id].toArray) H E N r rfl rfl rfl (by rw[d]; simp)
  (fun b hb _ _=>f b hb) (fun _ b hb=>by cases hb)
  (fun _ b hb=>by
   obtain⟨u,Y,hb⟩:=kG.1 hb;simp only[bC,cR,or_false] at Y;rcases Y with rfl|rfl
   ·cases hb; exact .inr (.inr (bt _))
   ·exact .inl ⟨l,by rw[I] at hb ⊢; exact hb⟩)
  (fun _ _ b hb _=>by cases hb)
  (by rw[s]; exact⟨g+1,false,[],rfl,eA _,fun hf=>by omega⟩) (by rw[hd]; trivial)
  (fun ev=>⟨none,0,by rw[ê _ _ E,Ç]; rfl,bt _,.inl ⟨rfl,rfl⟩⟩)
  (fun ev=>by
   have C:(w.alloc (.cells #[ν id] e)).heap[w.heap.size]?=some (.cells #[ν id] e (0,0)):=by rw[d]; simp
   refine⟨some ⟨w.heap.size,0,none⟩,1,[ν id],by rw[Ç]; rfl,by simp,?_,.inr ⟨w.heap.size,0,#[ν id],e,rfl,C,by simp,fun m u Z=>?_⟩,⟨base,cap,I,h2,?_⟩,trivial⟩
   ·refine List.Pairwise.cons (fun v W b hb y=>?_) (dZ _ _);simp at W;subst W
    obtain rfl:w.heap.size=b:=by simpa[Χ] using hb
    have:=H.lt ⟨id,l,by rw[I] at y ⊢; exact y⟩;omega
   ·cases m with
    |zero=>simpa using Z
    |succ m=>simp at Z
   ·rcases R with p|⟨b,off,c,S,p,G,O⟩
    ·exact .inl p
    ·exact .inr ⟨b,off,c,S,p,by
      rw[f b (Õ G),G],O⟩)
 refine⟨_,w.alloc (.cells #[ν id] e),.slice (some ⟨w.heap.size,0,none⟩) 1 1,?_,⟨rfl,k,0,[xs],?_,bt _,fun _=>⟨[ν id],Ç _ _ _⟩⟩,hr,ev,by rw[Ê,Ê]⟩
 ·subst K;simp only[Instr.buildSlice,Sem.run_bind,run_underlying ht,Result.andThen_ok,sizeOf,typeInfo,run_program,hi,Sem.run_pure,L];rw[show(2:Nat) ^ 24=16777216 from rfl,if_neg (by omega:¬1*1>16777216)];simp only[dS,Nat.one_ne_zero,if_false,Sem.run_bind,zeroValue,typeInfo,run_program,hi,hz,Sem.run_pure,Result.andThen_ok]
  have o:Instr.fill (fun i=>some (i*1,1)) ((Array.range 1).map (fun j=>z.cells[j % z.cells.size]!)) [(0,ν id)]=some #[ν id]:=by
   have:=oK (place:=fun i=>some (i*1,1)) (cells:=(Array.range 1).map (fun j=>z.cells[j % z.cells.size]!)) (i:=0) (v:=ν id) (rest:=[]) (off:=0) (size:=1) rfl (by have:=jz q; simpa using congrArg List.length this) (by simp);rw[this];have hc:=jz q;simp[Instr.fill,hc]
  simp only[dS] at o
  erw [o]
  simp[newRow]
 ·exact Ð _ (by rw[Ê]; exact r)
def D6 (H:HR ν h w) {G:Nat->Prop} {id g:Nat} {k:IntKind} {xss:AS (AS Int)} (R:lkB h id=.deep k g xss) {v:Value} (L:∃us,ν id=.agg (v::us).toArray) (S:∀b,ć (ν id) b->¬G b) :
 CR w G (.slice (.slice (.int k))) xss [v]:=by
 obtain⟨us,s⟩:=L;obtain⟨base,cap,E,A,h2,_,Y,W⟩:=H.table R;have z:=A;rw[s] at A;have q:=fT A
 injection q with J I
 subst J I;have own:∀u∈Value.slice base xss.length cap::us,∀b,Χ u=some b->¬G b:=fun u r b hb=>S b (by rw[z]; exact⟨u,by simpa using r,hb⟩);refine⟨base,cap,rfl,h2,?_⟩;rcases Y with⟨rfl,rfl⟩|⟨b,off,c,e,rfl,B,h6,V⟩
 ·exact .inl (bL.1 (by omega))
 ·refine .inr ⟨b,off,rfl,own _ (.head _) b rfl,Õ B,fun i xs K=>?_⟩;obtain⟨u,r,N⟩:=W.get K;refine⟨[u],?_,fun j y d=>?_⟩
  ·obtain⟨f,p,rfl,U,T⟩:=N;refine⟨f,p,rfl,U,?_⟩;rcases T with⟨rfl,rfl⟩|⟨C,l,c2,e2,rfl,o,Z,t⟩
   ·exact .inl (bL.1 (by omega))
   ·refine .inr ⟨C,l,rfl,own _ (.tail _ (bI r)) C rfl,Õ o,fun m x O=>⟨[.int k x],rfl,fun j y d=>?_⟩⟩
    cases j with
    |zero =>
     simp at d;subst d;simp only[World.cell?,o];have:=t m x O;simpa[Ty.size] using this
    |succ j=>simp at d
  ·cases j with
   |zero =>
    simp at d;subst d;simp only[World.cell?,B];have:=V i _ r;simpa[Ty.size] using this
   |succ j=>simp at d
def PR (H:HR ν h w) {nid id g n:Nat} {t e:TypeId} {k:IntKind} {xss:AS (AS Int)} {i:TypeInfo} {z:Value} (E:nid<h.length) (hd:lkB h nid=.dead) (ht:P.underlying t=some (.slice e)) (hi:P.info? e=some i) (S:i.size=1) (hz:i.zero=some z) (hzs:z.cells.size=1)
 (J:lkB h id=.deep k g xss) (T:n=1) {d:Value} (s:∃us,ν id=.agg (d::us).toArray) :
 ħ P ν h w (Instr.buildSlice t n #[(0,d)]) (.own nid 0) (Ú (Ú h id (.deep k (g+1) [])) nid (.row (.slice (.slice (.int k))) 0 false [xss])):=by
 subst T;have L:=s;obtain⟨us,s⟩:=s
 have N:id≠nid:=fun e=>by rw[e,hd] at J; cases J
 have W:id<h.length:=Ģ J (by simp)
 have f:(lkB h id).live=true:=by rw[J]; rfl
 have C:d.oneCell'=true:=by
  obtain⟨base,cap,us',h1,_⟩:=H.table J;rw[s] at h1;have q:=fT h1
  injection q with q1 q2
  rw[q1]; rfl
 have l:(w.alloc (.cells #[d] e)).heap=w.heap.push (.cells #[d] e (0,0)):=rfl
 have p:∀b,b<w.heap.size->(w.alloc (.cells #[d] e)).heap[b]?=w.heap[b]?:=fun b hb=>by rw[l,cJ]; simp[dz hb]
 have G:(w.alloc (.cells #[d] e)).heap[w.heap.size]?=some (.cells #[d] e (0,0)):=by rw[l]; simp
 obtain⟨ν',o⟩:∃ν',ν'=Ü (Ü ν id (.agg [Value.slice none 0 0].toArray)) nid (.slice (some ⟨w.heap.size,0,none⟩) 1 1):=⟨_,rfl⟩;obtain⟨h',O⟩:∃h',h'=Ú (Ú h id (.deep k (g+1) [])) nid (.row (.slice (.slice (.int k))) 0 false [xss]):=⟨_,rfl⟩
 have K:∀b,ć (ν id) b->¬Av ν' h' b:=by
  intro b hb;rintro(⟨m,I,c⟩|hg)
  ·by_cases Z:m=nid
   ·subst Z;rw[o,Ç] at c;obtain rfl:w.heap.size=b:=Option.some.inj c;have:=H.lt ⟨id,f,hb⟩;omega
   ·rw[o,ê _ _ Z] at c;rw[O,È _ Z] at I
    by_cases R:m=id
    ·subst R;rw[Ç] at c;obtain⟨u,y,c⟩:=kG.1 c;simp at y;subst y;cases c
    ·rw[ê _ _ R] at c;rw[È _ R] at I;exact R (H.inj m id b I f c hb)
  ·exact H.ghne id b f hb hg
 have Y:CR (w.alloc (.cells #[d] e)) (Av ν' h') (.slice (.slice (.int k))) xss [d]:=CR.keep (fun b hb T=>⟨p b hb,T⟩) (D6 H J L K)
 obtain⟨ev,hr⟩:=upd2 (w':=w.alloc (.cells #[d] e)) (A:=.deep k (g+1) []) (B:=.row (.slice (.slice (.int k))) 0 false [xss]) (U:=.agg [Value.slice none 0 0].toArray) (V:=.slice (some ⟨w.heap.size,0,none⟩) 1 1) H N W E rfl rfl rfl (by rw[l]; simp)
  (fun b hb _ _=>p b hb)
  (fun _ b hb=>by
   obtain⟨u,y,hb⟩:=kG.1 hb;simp at y;subst y
   cases hb)
  (fun _ b hb=>by
   obtain rfl:w.heap.size=b:=Option.some.inj hb
   exact .inr (.inr (bt _)))
  (fun _ _ b hb _=>by
   obtain⟨u,y,hb⟩:=kG.1 hb;simp at y;subst y
   cases hb)
  (by rw[J]; exact⟨g+1,[],rfl,eA _,fun hf=>by omega⟩) (by rw[hd]; trivial)
  (fun ev=>⟨none,0,[],by rw[ê _ _ N,Ç]; rfl,bt _,dZ _ _,.inl ⟨rfl,rfl⟩,trivial⟩)
  (fun ev=>by
   rw[<-o,<-O];refine⟨some ⟨w.heap.size,0,none⟩,1,by rw[o,Ç]; rfl,by simp,.inr ⟨w.heap.size,0,#[d],e,rfl,G,by simp[Ty.size],fun m x I=>?_⟩⟩
   cases m with
   |zero =>
    simp at I;subst I;refine⟨[d],Y,?_⟩;have:=Ĕ.of_cells G;simpa using this
   |succ m=>simp at I)
 refine⟨_,w.alloc (.cells #[d] e),.slice (some ⟨w.heap.size,0,none⟩) 1 1,?_,⟨rfl,.slice (.slice (.int k)),0,false,[xss],?_,bt _,fun _=>(Ç _ _ _).symm⟩,hr,ev,by rw[Ê,Ê]⟩
 ·simp only[Instr.buildSlice,Sem.run_bind,run_underlying ht,Result.andThen_ok,sizeOf,typeInfo,run_program,hi,Sem.run_pure,S];rw[show(2:Nat) ^ 24=16777216 from rfl,if_neg (by omega:¬1*1>16777216)];simp only[dS,Nat.one_ne_zero,if_false,Sem.run_bind,zeroValue,typeInfo,run_program,hi,hz,Sem.run_pure,Result.andThen_ok]
  have r:Instr.fill (fun i=>some (i*1,1)) ((Array.range 1).map (fun j=>z.cells[j % z.cells.size]!)) [(0,d)]=some #[d]:=by
   have:=oK (place:=fun i=>some (i*1,1)) (cells:=(Array.range 1).map (fun j=>z.cells[j % z.cells.size]!)) (i:=0) (v:=d) (rest:=[]) (off:=0) (size:=1) rfl (by have:=jz C; simpa using congrArg List.length this) (by simp);rw[this];have hc:=jz C;simp[Instr.fill,hc]
  simp only[dS] at r
  erw [r]
  simp[newRow]
 ·exact Ð _ (by rw[Ê]; exact E)
def GH {k:IntKind} {base:AN Addr} {cap:Nat} {xss:AS (AS Int)} {us:AS Value} (m:ä (HW w k) xss us)
 (d:(base=none/\cap=0)\/∃b off c e,base=some ⟨b,off,none⟩/\w.heap[b]?=some (.cells c e (0,0))/\off+cap<=c.size/\∀(i:Nat) (u:Value),us[i]?=some u->c[off+i]?=some u) (p:xss.length<=cap) :
 (∀a,base=some a->∀j u,us[j]?=some u->w.cell? (a.add j)=some u)/\(base=none->us=[]):=by
 constructor
 ·intro a ha j u o;rcases d with⟨d,_⟩|⟨b,off,c,e,d,l,_,f⟩
  ·rw[d] at ha; cases ha
  ·rw[d] at ha; cases ha;rw[ē];simp only[World.cell?,l];exact f j u o
 ·intro hb;rcases d with⟨_,d⟩|⟨b,off,c,e,d,_⟩
  ·have:=m.length;exact bL.1 (by omega)
  ·rw[hb] at d; cases d
def Dw (H:HR ν h w) {j f:Nat} (z:f≠j) (hj:j<h.length) {k:IntKind} {Z g':Nat} {xss i:AS (AS Int)} (A:lkB h f=.deep k Z i) {O:AN Addr} {Y:Nat} {us l:AS Value} (C:ν f=.agg (Value.slice O i.length Y::l).toArray)
 (L:∀W,(lkB h j).next ν W j (.deep k g' (xss++i)))
 (r:ä (HW w k) xss us) (G:∀u∈us,∀b,Χ u=some b->(lkB h j).live=true/\ć (ν j) b) (hap:Gu us)
 {base':AN Addr} {cap':Nat} {w':World} (T:xss.length+i.length<=cap') (hos:w'.os=w.os) (I:w'.tape=w.tape) (R:w'.output=w.output) (J:w.heap.size<=w'.heap.size)
 (t:∀b,Χ (.slice base' (xss.length+i.length) cap')=some b->((lkB h j).live=true/\ć (ν j) b/\∀u∈us,Χ u≠some b)\/w.heap.size<=b)
 (s:∀b,b<w.heap.size->Χ (.slice base' (xss.length+i.length) cap')≠some b->w'.heap[b]?=w.heap[b]?)
 (B:(base'=none/\cap'=0)\/∃b off c e,base'=some ⟨b,off,none⟩/\w'.heap[b]?=some (.cells c e (0,0))/\off+cap'<=c.size/\∀(m:Nat) (u:Value),(us++l)[m]?=some u->c[off+m]?=some u) :
 Ev h.length ν h w (Ü (Ü ν f (.agg [Value.slice none 0 0].toArray)) j (.agg (Value.slice base' (xss.length+i.length) cap'::(us++l)).toArray)) (Ú (Ú h f (.deep k (Z+1) [])) j (.deep k g' (xss++i))) w' /\
  HR (Ü (Ü ν f (.agg [Value.slice none 0 0].toArray)) j (.agg (Value.slice base' (xss.length+i.length) cap'::(us++l)).toArray)) (Ú (Ú h f (.deep k (Z+1) [])) j (.deep k g' (xss++i))) w':=by
 have S:f<h.length:=Ģ A (by simp);obtain⟨base2',cap2',us2',q1,q2,q3,q4,q5⟩:=H.table A;rw[C] at q1;have q:=fT q1
 injection q with e1 e2
 subst e2
 have o:(lkB h f).live=true:=by rw[A]; rfl
 have p:∀u∈l,∀b,Χ u=some b->ć (ν f) b:=fun u d b hb=>by rw[C]; exact kG.2 ⟨u,by simp[d],hb⟩
 have U:Gu l:=q3.sublist (List.sublist_cons_self _ _)
 have N:∀u∈us,∀v∈l,∀b,Χ u=some b->Χ v≠some b:=fun u d v x b hb hvb =>
  z (H.inj f j b o (G u d b hb).1 (p v x b hvb) (G u d b hb).2)
 have V:∀u∈us++l,∀b,Χ (.slice base' (xss.length+i.length) cap')=some b->Χ u≠some b:=fun u d b hb y=>by
  rcases t b hb with⟨h1,h2,E⟩|h1
  ·rcases bw.1 d with d|d
   ·exact E u d y
   ·exact z (H.inj f j b o h1 (p u d b y) h2)
  ·rcases bw.1 d with d|d
   ·have:=LF r u d b y; omega
   ·have:=LF q5 u d b y; omega
 have K:∀u∈us++l,∀b,Χ u=some b->b<w.heap.size->w'.heap[b]?=w.heap[b]?:=fun u d b hb hlt=>s b hlt fun x=>V u d b x hb;refine upd2 H z S hj hos I R J (fun b hb h1 h2=>s b hb fun x=>?_) (fun _ b hb=>?_) (fun _ b hb=>?_) (fun _ _ b hb _=>?_) ?_ (L _) (fun ev=>?_) (fun ev=>?_)
 ·rcases t b x with⟨E,h4,_⟩|E
  ·exact h2 E h4
  ·omega
 ·obtain⟨u,d,hb⟩:=kG.1 hb;simp at d;subst d;cases hb
 ·obtain⟨u,d,hb⟩:=kG.1 hb;rcases bC.1 d with rfl|d
  ·rcases t b hb with⟨E,h4,_⟩|E
   ·exact .inr (.inl ⟨E,h4⟩)
   ·exact .inr (.inr E)
  ·rcases bw.1 d with d|d
   ·exact .inr (.inl (G u d b hb))
   ·exact .inl ⟨o,p u d b hb⟩
 ·obtain⟨u,d,hb⟩:=kG.1 hb;simp at d;subst d;cases hb
 ·rw[A]; exact⟨Z+1,[],rfl,eA _,fun hf=>by omega⟩
 ·exact⟨none,0,[],by rw[ê _ _ z,Ç]; rfl,bt _,dZ _ _,.inl ⟨rfl,rfl⟩,trivial⟩
 ·refine⟨base',cap',us++l,by rw[Ç,bz],by rw[bz]; exact T,?_,B,?_⟩
  ·rw[bz];exact List.Pairwise.cons (fun v x b hb=>V v x b hb) (List.pairwise_append.2 ⟨hap,U,fun u d v x b hb=>N u d v x b hb⟩)
  ·exact(r.append q5).keepRows K
def JE {n b:Nat} (c:n<=4294967296) (h2:b<=32768):n*b<=140737488355328:=by
 have:=eE c h2;omega
def FY (H:HR ν h w) (t ty:TypeId) {e:TypeId} {i:TypeInfo} {z:Value} (ht:P.underlying t=some (.slice e)) (hi:P.info? e=some i) (hz:i.zero=some z) (C:i.size=1) (hby:i.bytes<=32768) (hzs:z.cells.size=1)
 {j r:Nat} (U:r≠j) (hj:j<h.length) {k:IntKind} {g2 g':Nat} {xss d:AS (AS Int)} (L:lkB h r=.deep k g2 d) {base p:AN Addr} {cap s:Nat} {us f:AS Value} (B:ν r=.agg (Value.slice p d.length s::f).toArray)
 (x:∀W,(lkB h j).next ν W j (.deep k g' (xss++d)))
 (hx:(base=none/\cap=0/\xss=[]/\us=[])\/∃g,lkB h j=.deep k g xss/\ν j=.agg (Value.slice base xss.length cap::us).toArray)
 (J:xss.length+d.length<=4294967296) :
 ∃V w',(Builtin.append_ #[t,t] ty #[.slice base xss.length cap,.slice p d.length s]).run P w=.ok V w'/\V.oneCell'=true /\
  Ev h.length ν h w (Ü (Ü ν r (.agg [Value.slice none 0 0].toArray)) j (.agg (V::(us++f)).toArray)) (Ú (Ú h r (.deep k (g2+1) [])) j (.deep k g' (xss++d))) w' /\
  HR (Ü (Ü ν r (.agg [Value.slice none 0 0].toArray)) j (.agg (V::(us++f)).toArray)) (Ú (Ú h r (.deep k (g2+1) [])) j (.deep k g' (xss++d))) w':=by
 obtain⟨base2',cap2',us2',q1,q2,q3,q4,q5⟩:=H.table L;rw[B] at q1;have q:=fT q1
 injection q with Z e2
 injection Z with Z e3 e4
 subst Z e2 e4;obtain⟨c2,n2⟩:=GH q5 q4 q2;have l2:=q5.length;have T:=O7 q5
 -- the table that grows
 have hX:ä (HW w k) xss us/\(∀u∈us,∀b,Χ u=some b->(lkB h j).live=true/\ć (ν j) b)/\Gu us /\
  ((base=none/\cap=0/\us=[]/\xss=[])\/∃b off c e,base=some ⟨b,off,none⟩/\w.heap[b]?=some (.cells c e (0,0))/\off+cap<=c.size/\xss.length<=cap/\(∀(i:Nat) (u:Value),us[i]?=some u->c[off+i]?=some u)/\((lkB h j).live=true/\ć (ν j) b/\∀u∈us,Χ u≠some b)):=by
  rcases hx with⟨rfl,rfl,rfl,rfl⟩|⟨g,hl,R⟩
  ·exact⟨trivial,fun u hu=>(by cases hu),List.Pairwise.nil,.inl ⟨rfl,rfl,rfl,rfl⟩⟩
  ·obtain⟨b',c',us',p1,p2,p3,p4,p5⟩:=H.table hl;rw[R] at p1;have q:=fT p1
   injection q with Z e2
   injection Z with Z e3 e4
   subst Z e2 e4
   have I:(lkB h j).live=true:=by rw[hl]; rfl
   refine⟨p5,fun u hu b hb=>⟨I,by rw[R]; exact kG.2 ⟨u,by simp[hu],hb⟩⟩,p3.sublist (List.sublist_cons_self _ _),?_⟩;rcases p4 with⟨rfl,rfl⟩|⟨b,off,c,e',rfl,p6,p7,p8⟩
   ·have h0:xss=[]:=bL.1 (by omega);subst h0;exact .inl ⟨rfl,rfl,bL.1 p5.length.symm,rfl⟩
   ·exact .inr ⟨b,off,c,e',rfl,p6,p7,p2,p8,I,by rw[R]; exact kG.2 ⟨_,.head _,rfl⟩,fun u hu hub=>(b7.1 p3).1 u hu b rfl hub⟩
 obtain⟨x1,x2,x3,x4⟩:=hX;have l1:=x1.length
 have hU2:d≠[]->∃a,p=some a:=fun N=>by
  cases hb:p with
  |none=>exact absurd (bL.1 (by rw[l2,n2 hb]; rfl)) N
  |some a=>exact⟨a,rfl⟩
 -- a new array
 have O:∀G:Nat,∃V w',(Result.ok (Value.slice (some ⟨w.heap.size,0,none⟩) (xss.length+d.length) (grownCap w (xss.length+d.length) G e))
  (w.drew.alloc (.cells (us.toArray++f.toArray++Builtin.zeroCells z.cells (grownCap w (xss.length+d.length) G e-(xss.length+d.length))) e)):Result Value)=.ok V w'/\V.oneCell'=true /\
  Ev h.length ν h w (Ü (Ü ν r (.agg [Value.slice none 0 0].toArray)) j (.agg (V::(us++f)).toArray)) (Ú (Ú h r (.deep k (g2+1) [])) j (.deep k g' (xss++d))) w' /\
  HR (Ü (Ü ν r (.agg [Value.slice none 0 0].toArray)) j (.agg (V::(us++f)).toArray)) (Ú (Ú h r (.deep k (g2+1) [])) j (.deep k g' (xss++d))) w':=by
  intro G;have hge:=grownCap_ge w (xss.length+d.length) G e;obtain⟨q,hq⟩:∃q,q=grownCap w (xss.length+d.length) G e:=⟨_,rfl⟩;rw[<-hq] at hge ⊢;obtain⟨cs,A⟩:∃cs,cs=us.toArray++f.toArray++Builtin.zeroCells z.cells (q-(xss.length+d.length)):=⟨_,rfl⟩
  have S:cs.size=q:=by
   rw[A];simp only[eR,dh,size_zeroCells,hzs];omega
  have K:∀(m:Nat) (u:Value),(us++f)[m]?=some u->cs[m]?=some u:=fun m u E=>by
   rw[<-cA] at E;rw[A,cY,if_pos]
   ·simpa using E
   ·have:=(cS.1 E).1;simpa using this
  rw[<-A];have y:(w.drew.alloc (.cells cs e)).heap=w.heap.push (.cells cs e (0,0)):=rfl
  have Y:(w.drew.alloc (.cells cs e)).heap[w.heap.size]?=some (.cells cs e (0,0)):=by rw[y]; exact Array.getElem?_push_size
  exact⟨_,_,rfl,rfl,Dw (w':=w.drew.alloc (.cells cs e)) H U hj L B x x1 x2 x3 (base':=some ⟨w.heap.size,0,none⟩) (cap':=q) hge rfl rfl rfl (by rw[y]; simp)
   (fun b hb=>.inr (by cases hb; exact bt _)) (fun b hb _=>by rw[y,cJ]; simp[dz hb]) (.inr ⟨w.heap.size,0,cs,e,rfl,Y,by omega,fun m u E=>by rw[bX]; exact K m u E⟩)⟩
 rcases x4 with⟨rfl,rfl,rfl,rfl⟩|⟨b,off,c,e',rfl,p6,p7,p8,p9,p10⟩
 ·by_cases N:d=[]
  ·subst N;have hu2:f=[]:=bL.1 l2.symm;subst hu2;have l:=jh (P:=P) (w:=w) t ty e i ht hi p s;exact⟨_,w,l,rfl,Dw H U hj L B x x1 x2 x3 (base':=none) (cap':=0) (bt _) rfl rfl rfl (bt _) (fun b hb=>by cases hb) (fun b _ _=>rfl) (.inl ⟨rfl,rfl⟩)⟩
  ·have h0:0<d.length:=dX.2 N;obtain⟨a,rfl⟩:=hU2 N;rw[bZ,bX] at J;have hb48:=JE J hby;have l:=run_append_nil (P:=P) w t ty e i z ht hi hz a d.length s f (by rw[C]; omega) (c2 a rfl) h0 (by omega) (by omega);obtain⟨V,w',h1,h2,h3⟩:=O 0;refine⟨V,w',?_,h2,h3⟩;rw[<-h1];simpa using l
 ·by_cases v:xss.length+d.length<=cap
  ·have l:=ig (P:=P) (o:=off) (sLen:=xss.length) (sCap:=cap) t ty e i ht hi p6 p d.length s f (by rw[C]; omega) c2 n2 T v (by rw[C]; omega);rw[C,dS] at l;obtain⟨cs,A⟩:∃cs,cs=(c.toList.take (off+xss.length)++f++c.toList.drop (off+xss.length+f.length)).toArray:=⟨_,rfl⟩
   have S:cs.size=c.size:=by
    rw[A];simp only[dh,bz,bU,dt,dk];omega
   have K:∀(m:Nat) (u:Value),(us++f)[m]?=some u->cs[off+m]?=some u:=fun m u E=>by
    have hs:=iV c.toList f (off+xss.length) (off+m) (by rw[show c.toList.length=c.size from dk]; omega);rw[A,cA,hs];rw[cB] at E
    split at E
    ·rw[if_pos (by omega)];simpa using p9 m u E
    ·have hml:=(bB.1 E).1;rw[if_neg (by omega),if_pos (by omega),show off+m-(off+xss.length)=m-us.length by omega];exact E
   rw[<-A] at l;have hh:(w.setRow b cs).heap[b]?=some (.cells cs e' (0,0)):=setRow_heap w b c _ e' _ p6
   exact⟨_,_,l,rfl,Dw (w':=w.setRow b cs) H U hj L B x x1 x2 x3 (base':=some ⟨b,off,none⟩) (cap':=cap) v rfl rfl rfl (by rw[mb]; exact bt _)
    (fun b' hb=>.inl (by cases hb; exact p10)) (fun b' hb hne'=>setRow_other w b b' _ fun he=>hne' (by rw[he]; rfl)) (.inr ⟨b,off,cs,e',rfl,hh,by omega,K⟩)⟩
  ·have N:d≠[]:=fun e=>by rw[e,bZ] at v; omega
   have h0:0<d.length:=dX.2 N;obtain⟨a,rfl⟩:=hU2 N;have l:=run_append_grow (P:=P) w t ty e i z ht hi hz ⟨b,off,none⟩ xss.length cap us (by rw[C]; omega) (fun m u E=>by rw[ē]; simp only[World.cell?,p6]; exact p9 m u E) a d.length s f (by rw[C]; omega) (c2 a rfl) (by omega) (by omega) (growslice_fits (by omega) (JE J hby));obtain⟨V,w',h1,h2,h3⟩:=O cap;exact⟨V,w',l.trans h1,h2,h3⟩
def RQ {S:St} {a:Act} {nid n:Nat} {t:TypeId} {ps:Array (Nat×Operand)} {v:AV} (H:Sim ν S a w) (K:nid<S.h.length) (hd:lkB S.h nid=.dead)
 (e:HD P S.h nid n t (ps.toList.map fun p=>(p.1,ev S.t p.2)) (fun v h=>some (v,h))=some (v,h')):ħ P ν S.h w (Instr.buildSlice t n (ps.map fun(i,x)=>(i,a.eval x))) v h':=by
 cases c:ps.toList with
 |nil=>rw[c] at e; cases e
 |cons p l =>
 cases l with
 |cons q l=>rw[c] at e; cases e
 |nil =>
 obtain⟨T,x⟩:=p;rw[c] at e;simp only[cm,dC,HD] at e;have B:=ù H x
 cases s:ev S.t x<;>rw[s] at e<;>simp only at e<;>try (cases e; done)
 ·rename_i id g;rw[s] at B
  split at e<;>try (cases e; done)
  rename_i R u
  split at e<;>try (cases e; done)
  rename_i A
  split at e<;>try (cases e; done)
  rename_i k g' xs y
  split at e<;>try (cases e; done)
  rename_i r;cases e;simp only[bu] at A;obtain⟨b,h0,I⟩:=A;obtain rfl:=bD h0;obtain rfl:=bD I
  obtain rfl:g=g':=by simpa using r
  obtain⟨ti,z,hi,m,_,G,C,f⟩:=fj b;have o:ps=#[(0,x)]:=bT.1 (by rw[c]);subst o;obtain⟨_,t2,N,O,L,d,_,j⟩:=B;rw[y] at d;cases d
  have E:((#[(0,x)]:Array (Nat×Operand)).map fun(i,x)=>(i,a.eval x))=#[(0,a.eval x)]:=by simp
  rw[E];exact PS H.heap K hd (ž u) hi m C f y rfl (j rfl)
 ·rename_i id g;rw[s] at B
  split at e<;>try (cases e; done)
  rename_i R u
  split at e<;>try (cases e; done)
  rename_i A
  split at e<;>try (cases e; done)
  rename_i k g' xss y
  split at e<;>try (cases e; done)
  rename_i r;cases e;simp only[bu] at A;obtain⟨b,h0,I⟩:=A;obtain rfl:=bD h0;obtain rfl:=bD I
  obtain rfl:g=g':=by simpa using r
  obtain⟨ti,z,hi,m,_,G,C,f⟩:=fj b;have o:ps=#[(0,x)]:=bT.1 (by rw[c]);subst o;obtain⟨_,U,N,J,d,_,j⟩:=B;rw[y] at d;cases d
  have E:((#[(0,x)]:Array (Nat×Operand)).map fun(i,x)=>(i,a.eval x))=#[(0,a.eval x)]:=by simp
  rw[E];exact PR H.heap K hd (ž u) hi m C f y rfl (j rfl)
def RT {nid:Nat} {t ty:TypeId} {s v:AV} {c T:Nat} {us ux:Value} (H:HR ν h w) (hn:nid<h.length) (hd:lkB h nid=.dead)
 (e:FZ P h nid t s c T (fun v h=>some (v,h))=some (v,h')) (hs:VR ν h w s us) (hx:VR ν h w (.dp c T) ux):ħ P ν h w (Builtin.append_ #[t,t] ty #[us,ux]) v h':=by
 unfold FZ at e
 split at e<;>try (cases e; done)
 rename_i el L
 split at e<;>try (cases e; done)
 rename_i r
 split at e<;>try (cases e; done)
 rename_i k S l b
 split at e<;>try (cases e; done)
 rename_i K
 obtain rfl:T=S:=by simpa using K
 obtain⟨ti,z,hi,p,_,B,hz,o⟩:=fj r;have ht:=ž L;have hid2:c<h.length:=Ģ b (by simp);obtain⟨_,k2,g3,yss2,x,_,I⟩:=hx;rw[b] at x; cases x;obtain⟨us2,d⟩:=I rfl;obtain⟨Z,cap2,us2',E,_⟩:=H.table b;have q1':=E;rw[d] at E;have q:=fT E
 injection q with Y U
 subst Y U
 split at e
 ·-- nil
  split at e<;>try (cases e; done)
  rename_i f;cases e;have J:us=.slice none 0 0:=hs;subst J
  have m:c≠nid:=fun e=>by rw[e,hd] at b; cases b
  obtain⟨V,w',R,h2,O,N⟩:=FY H t ty ht hi hz p B o m hn (g':=0) (xss:=[]) (us:=[]) b d (fun W=>by rw[hd]; trivial) (.inl ⟨rfl,rfl,rfl,rfl⟩) (by simp[ã] at f; simpa using f);refine⟨_,w',V,R,⟨h2,k,0,l,Ð _ (by rw[Ê]; exact hn),bt _,fun _=>⟨_,Ç _ _ _⟩⟩,N,O,by rw[Ê,Ê]⟩
 ·rename_i id g
  split at e<;>try (cases e; done)
  rename_i A
  split at e<;>try (cases e; done)
  rename_i k' g' xss y
  split at e<;>try (cases e; done)
  rename_i hg
  split at e<;>try (cases e; done)
  rename_i hk _;subst hk
  split at e<;>try (cases e; done)
  rename_i f
  obtain rfl:g=g':=by simpa using hg
  cases e
  have m:c≠id:=fun e=>by rw[e] at A; simp at A
  have j:id<h.length:=Ģ y (by simp);obtain⟨_,k3,g4,xss3,u,_,G⟩:=hs;rw[y] at u; cases u;obtain⟨C,i⟩:=G rfl;obtain⟨base,cap,us1',p1,_⟩:=H.table y;rw[i] at p1;have q:=fT p1
  injection q with Y U
  subst Y U;obtain⟨V,w',R,h2,O,N⟩:=FY H t ty ht hi hz p B o m j (g':=g+1) (xss:=xss) (us:=C) b d (fun W=>by rw[y]; exact⟨g+1,xss++l,rfl,eA _,fun hf=>by omega⟩) (.inr ⟨g,y,i⟩) (by simpa[ã] using f);refine⟨_,w',V,R,⟨h2,_,g+1,xss++l,Ð _ (by rw[Ê]; exact j),bt _,fun _=>⟨_,Ç _ _ _⟩⟩,N,O,by rw[Ê,Ê]⟩
 ·cases e
end
end Go.Am
end

noncomputable section
namespace Go.Am
variable {ρ:Type}
def rS (k:IntKind) (n:Int) (K:AV->AN ρ):arK k n K=(arK k n some).bind K:=rfl
def pQ (P:Program) (op:BinOp) (t:TypeId) (x y:AV) (K:AV->AN ρ):binK P op t x y K=(binK P op t x y some).bind K:=by
 unfold binK; (repeat' split)<;>first|rfl|exact rS _ _ _|(unfold shK; (repeat' split)<;>rfl)
def pq (d:AN TypeDesc) (h:AS Blk) (x:AV) (K:AV->AN ρ):PB d h x K=(PB d h x some).bind K:=by
 unfold PB; (repeat' split)<;>rfl
def i8 (sz:Nat) (h:AS Blk) (x i:AV) (K:AV->AN ρ):tS sz h x i K=(tS sz h x i some).bind K:=by
 unfold tS; (repeat' split)<;>rfl
def iX (h:AS Blk) (x:AV) (o:Nat) (K:AV->AN ρ):qg h x o K=(qg h x o some).bind K:=by
 unfold qg; (repeat' split)<;>rfl
def lQ (P:Program) (h:AS Blk) (t:TypeId) (a:AV) (K:AV->AN ρ):AM P h t a K=(AM P h t a some).bind K:=by
 unfold AM; (repeat' split)<;>rfl
def iU (P:Program) (h:AS Blk) (t:TypeId) (a v:AV) (K:AS Blk->AN ρ):ng P h t a v K=(ng P h t a v some).bind K:=by
 unfold ng; (repeat' split)<;>rfl
def pb (sz:Nat) (h:AS Blk) (x:AV) (lo hi:AN AV) (eat:Bool) (K:AV->AS Blk->AN ρ) :
 jL sz h x lo hi eat K=(jL sz h x lo hi eat fun v h=>some (v,h)).bind fun r=>K r.1 r.2:=by
 unfold jL; (repeat' split)<;>rfl
def m9 (P:Program) (h:AS Blk) (nid:Nat) (t:TypeId) (s x:AV) (K:AV->AS Blk->AN ρ) :
 oY P h nid t s x K=(oY P h nid t s x fun v h=>some (v,h)).bind fun r=>K r.1 r.2:=by
 unfold oY; (repeat' split)<;>rfl
def un (P:Program) (h:AS Blk) (nid:Nat) (t:TypeId) (s:AV) (id g:Nat) (K:AV->AS Blk->AN ρ) :
 FZ P h nid t s id g K=(FZ P h nid t s id g fun v h=>some (v,h)).bind fun r=>K r.1 r.2:=by
 unfold FZ; (repeat' split)<;>rfl
def uk (P:Program) (h:AS Blk) (nid n:Nat) (t:TypeId) (ps:AS (Nat×AV)) (K:AV->AS Blk->AN ρ) :
 HD P h nid n t ps K=(HD P h nid n t ps fun v h=>some (v,h)).bind fun r=>K r.1 r.2:=by
 unfold HD; (repeat' split)<;>rfl
def o8 (P:Program) (h:AS Blk) (nid:Nat) (t:TypeId) (s x:AV) (K:AV->AS Blk->AN ρ) :
 vT P h nid t s x K=(vT P h nid t s x fun v h=>some (v,h)).bind fun r=>K r.1 r.2:=by
 unfold vT; (repeat' split)<;>rfl
def pO (P:Program) (h:AS Blk) (t:TypeId) (x:AV) (K:AS Blk->AN ρ):wy P h t x K=(wy P h t x some).bind K:=by
 unfold wy; (repeat' split)<;>rfl
def gj (P:Program) (h:AS Blk) (t:TypeId) (m i:AV) (ok:Bool) (K:AV->AN ρ):kK P h t m i ok K=(kK P h t m i ok some).bind K:=by
 unfold kK; (repeat' split)<;>rfl
def Μ (P:Program) (h:AS Blk) (t:TypeId) (m i x:AV) (K:AS Blk->AN ρ):ţ P h t m i x K=(ţ P h t m i x some).bind K:=by
 unfold ţ; (repeat' split)<;>rfl
def Ŕ (gt:Bool) (l:AS AV) (K:AV->AN ρ):∀x,fH gt x l K=(fH gt x l some).bind K:=by
 induction l with
 |nil=>intro x; rfl
 |cons y l b =>
  intro x
  cases x<;>cases y<;>try rfl
  unfold fH; (repeat' split)<;>first|rfl|exact b _
def N2 {α β γ:Type} {x:AN α} {y:AN β} {f:α->AN β} {g:β->AN γ} {k:α->AN γ} {z:AN γ}
 (b:z=x.bind k) (h2:y=x.bind f) (h:∀a,k a=(f a).bind g):z=y.bind g:=by
 subst b h2; cases x with
 |none=>rfl
 |some a=>exact h a
def pv (P:Program) (op:BinOp) (t:TypeId) (x:AV) (K:AV->AN ρ):ifcK P op t x K=(ifcK P op t x some).bind K:=by
 unfold ifcK; (repeat' split)<;>rfl
def ŵ (s:ByteArray) (j:Int) (K:AV->AN ρ):kX s j K=(kX s j some).bind K:=by
 unfold kX; (repeat' split)<;>rfl
def Ŵ (s:ByteArray) (lo hi:AN AV) (K:AV->AN ρ):kW s lo hi K=(kW s lo hi some).bind K:=by
 unfold kW; (repeat' split)<;>rfl
def jc (h:AS Blk) (x:AV) (K:AV->AN ρ):ut h x K=(ut h x some).bind K:=by
 unfold ut; (repeat' split)<;>rfl
def pw (s:ByteArray) (K:AN AV->AN ρ):∀es:AS (ByteArray×AV),qT s es K=(qT s es some).bind K
 |[]=>rfl
 |e::es=>by
  unfold qT
  split
  ·rfl
  ·exact pw s K es
def gk (P:Program) (h:AS Blk) (t:TypeId) (id:Nat) (i:AV) (ok:Bool) (K:AV->AN ρ):mO P h t id i ok K=(mO P h t id i ok some).bind K:=by
 unfold mO; (repeat' split)<;>first|rfl|exact N2 (pw _ _ _) (pw _ _ _) fun _=>by(repeat' split)<;>rfl
def Ν (P:Program) (h:AS Blk) (t:TypeId) (id:Nat) (i x:AV) (K:AS Blk->AN ρ):Ť P h t id i x K=(Ť P h t id i x some).bind K:=by
 unfold Ť; (repeat' split)<;>rfl
def opR (P:Program) (S:St) (nid:Nat) (eat:Bool) (o:Op):AN (AV×St):=opK P S nid eat o fun v S=>some (v,S)
def Ċ {α β γ:Type} {x:AN α} {y:AN β} {f:α->AN β} {g:β->AN γ} {k:α->AN γ} {z:AN γ}
 (b:z=x.bind k) (h2:y=x.bind f) (h:∀a,k a=(f a).bind g):z=y.bind g:=by
 subst b h2; cases x with
 |none=>rfl
 |some a=>exact h a
def Ŝ (j:Int) (K:Nat->AN ρ):∀(n q:Nat),Ey n q j K=(Ey n q j some).bind K
 |0,_=>rfl
 |n+1,q=>by
  unfold Ey
  split
  ·rfl
  ·exact Ŝ j K n (q+1)
def uL {j:Int} {v:Nat}:∀{n q:Nat},Ey n q j some=some v->j=(v:Int)/\q<=v/\v<q+n
 |0,_,h=>by cases h
 |n+1,q,h=>by
  unfold Ey at h
  split at h
  ·rename_i hd;cases h;exact⟨of_decide_eq_true hd,bt _,by omega⟩
  ·obtain⟨b,h2,c⟩:=uL h;exact⟨b,by omega,by omega⟩
def CS (P:Program) (S:St) (nid:Nat) (eat:Bool) (o:Op) (K:AV->St->AN ρ) :
 opK P S nid eat o K=(opR P S nid eat o).bind fun r=>K r.1 r.2:=by
 unfold opR;unfold opK;dsimp only
 (repeat' split)<;>first
  |rfl
  |exact Ċ (pq ..) (pq ..) fun _=>rfl
  |exact Ċ (lQ ..) (lQ ..) fun _=>rfl
  |exact Ċ (iU ..) (iU ..) fun _=>rfl
  |exact Ċ (pQ ..) (pQ ..) fun _=>rfl
  |exact Ċ (Μ ..) (Μ ..) fun _=>rfl
  |exact Ċ (gj ..) (gj ..) fun _=>rfl
  |exact Ċ (m9 ..) (m9 ..) fun _=>rfl
  |exact Ċ (un ..) (un ..) fun _=>rfl
  |exact Ċ (uk ..) (uk ..) fun _=>rfl
  |exact Ċ (o8 ..) (o8 ..) fun _=>rfl
  |exact Ċ (pO ..) (pO ..) fun _=>rfl
  |exact Ċ (Ŕ _ _ _ _) (Ŕ _ _ _ _) fun _=>rfl
  |exact Ċ (rS ..) (rS ..) fun _=>rfl
  |exact Ċ (pb ..) (pb ..) fun _=>rfl
  |exact Ċ (iX ..) (iX ..) fun _=>rfl
  |exact Ċ (i8 ..) (i8 ..) fun _=>rfl
  |exact Ċ (pv ..) (pv ..) fun _=>rfl
  |exact Ċ (ŵ ..) (ŵ ..) fun _=>rfl
  |exact Ċ (Ŵ ..) (Ŵ ..) fun _=>rfl
  |exact Ċ (jc ..) (jc ..) fun _=>rfl
  |exact Ċ (gk ..) (gk ..) fun _=>rfl
  |exact Ċ (Ν ..) (Ν ..) fun _=>rfl
  |exact Ċ (Ŝ ..) (Ŝ ..) fun _=>rfl
  |exact Ċ (Ŝ ..) (Ŝ ..) fun _=>by(repeat' split)<;>rfl
end Go.Am
end

noncomputable section
namespace Go.Am
variable [Globs] [É]
section
variable {ν ν':Nat->Value} {h h':AS Blk} {w w':World} {P:Program}
def GJ {t:TypeId} {s:ByteArray} {k:IntKind} {j:Int} {v:AV} (H:HR ν h w) (c:P.underlying t=some .string) (e:kX s j some=some v):ħ P ν h w (Instr.index t (.string s) (.int k j)) v h:=by
 unfold kX at e
 split at e<;>try (cases e; done)
 rename_i h0;have h0:=of_decide_eq_true h0
 split at e<;>try (cases e; done)
 rename_i b hb;cases e;refine ħ.still H (u:=.int .u8 b.toNat) ?_ rfl;simp only[Instr.index,asIntOf,Sem.run_bind,Sem.run_pure,Result.andThen_ok,run_underlying c];rw[if_pos h0,hb];rfl
def jg {t:TypeId} {s:ByteArray} {lo hi:AN Value} (b:P.underlying t=some .string):(Instr.sliceAt t (.string s) lo hi none).run P w=(Instr.slice t (.string s) lo hi none).run P w:=by
 simp only[Instr.sliceAt,Sem.run_bind,run_underlying b,Result.andThen_ok]
def GI {t:TypeId} {s:ByteArray} {lo hi:AN AV} {b c:AN Value} {v:AV} (H:HR ν h w) (i:P.underlying t=some .string) (e:kW s lo hi some=some v)
 (p:∀y,lo=some y->∃u,b=some u/\VR ν h w y u) (h2:lo=none->b=none) (o:∀y,hi=some y->∃u,c=some u/\VR ν h w y u) (q:hi=none->c=none):ħ P ν h w (Instr.sliceAt t (.string s) b c none) v h:=by
 unfold kW at e
 split at e
 ·rename_i k l j m;obtain⟨_,rfl,f⟩:=p _ rfl;obtain⟨_,rfl,d⟩:=o _ rfl;have f:_=Value.int k l:=f;have d:_=Value.int j m:=d;subst f d
  split at e<;>try (cases e; done)
  rename_i hb;simp only[bu,decide_eq_true_eq] at hb;cases e;refine ħ.still H (u:=.string (s.extract l.toNat m.toNat)) ?_ rfl;rw[jg i,run_slice_string w t s k j l m i hb.1 hb.2.1 hb.2.2]
 ·rename_i k l;obtain⟨_,rfl,f⟩:=p _ rfl;have f:_=Value.int k l:=f;subst f;obtain rfl:=q rfl
  split at e<;>try (cases e; done)
  rename_i hb;simp only[bu,decide_eq_true_eq] at hb;cases e;refine ħ.still H (u:=.string (s.extract l.toNat s.size)) ?_ rfl;rw[jg i,run_slice_string_from_if w t s k l i,if_pos hb]
 ·rename_i k m;obtain⟨_,rfl,d⟩:=o _ rfl;have d:_=Value.int k m:=d;subst d;obtain rfl:=h2 rfl
  split at e<;>try (cases e; done)
  rename_i hb;simp only[bu,decide_eq_true_eq] at hb;cases e;refine ħ.still H (u:=.string (s.extract 0 m.toNat)) ?_ rfl;rw[jg i,run_slice_string_to_if w t s k m i,if_pos hb]
 ·cases e
def OO {t:TypeId} (h:u8T P t=true):P.underlying t=some (.int .u8):=by
 unfold u8T at h
 split at h
 ·assumption
 ·cases h
def P6 {d dst e:TypeId} {x v:AV} {m:Value} (H:HR ν h w) (o:P.underlying d=some (.slice e)) (hd:P.underlying dst=some .string) (r:P.underlying e=some (.int .u8)) (A:VR ν h w x m) (f:ut h x some=some v):ħ P ν h w (convert d dst m) v h:=by
 unfold ut at f
 split at f<;>try (cases f; done)
 rename_i id g
 split at f<;>try (cases f; done)
 rename_i g' xs p
 split at f<;>try (cases f; done)
 rename_i E;cases f;obtain⟨K,t,R,fz,y,j,C,B⟩:=A;rw[p] at j; cases j;have l:=B (eq_of_beq E);have s:=H.blk id;rw[p] at s;obtain⟨base,cap,J,h2,I⟩:=s;refine ħ.still H (u:=.string (NX xs)) ?_ rfl;rw[l,J];rcases I with⟨rfl,L⟩|⟨b,off,c,q,rfl,O,N,G⟩
 ·have:xs=[]:=bL.1 (by omega);subst this;exact run_convert_bytes_nil w d e o r _ _ dst hd
 ·refine run_convert_bytes_arg w d e o r b off xs.length cap xs rfl (fun i hi=>?_) dst hd;obtain⟨us,k,z⟩:=G i xs[i] (br hi);have k:us=[Value.int .u8 xs[i]]:=k;subst k;have:=z 0 _ rfl;rw[eI,br hi];simpa[Ty.size] using this
def Ik {a b:ByteArray}:GP a b=true↔a=b:=by
 unfold GP;rw[decide_eq_true_eq];constructor
 ·intro h;exact ByteArray.ext (cX h)
 ·rintro rfl; rfl
def O3 (a b:ByteArray):(a==b)=GP a b:=by
 have h:(a==b)=(a.data==b.data):=rfl;rw[h,dj,beq_iff_eq,Ik];exact⟨fun h=>ByteArray.ext h,fun h=>by rw[h]⟩
def D7 {t:TypeId} (h:strT P t=true):P.underlying t=some .string:=by
 unfold strT at h
 split at h
 ·assumption
 ·cases h
def sd {t:TypeId} {s:ByteArray} {empty:Bool} (b:P.underlying t=some .string) (m:Nat):(Instr.checkKey empty (m+1) t (.string s)).run P w=.ok () w:=by
 simp[Instr.checkKey,run_underlying b]
abbrev DW (ν:Nat->Value) (h:AS Blk) (w:World) (es:AS (ByteArray×AV)) (ms:AS MapEntry):Prop :=
 ä (fun(e:ByteArray×AV) (m:MapEntry)=>m.key=.string e.1/\e.2.isFn=true/\VR1 ν h w e.2 m.val) es ms
def zl {s:ByteArray}:∀(es:AS (ByteArray×AV)) (ms:AS MapEntry) (i:Nat),DW ν h w es ms ->
 (qT s es some=some none/\Instr.findNow .string (.string s) ms i=some none/\B3 s es=true) \/
 ∃v u j,qT s es some=some (some v)/\Instr.findNow .string (.string s) ms i=some (some (j,u))/\v.isFn=true/\VR1 ν h w v u/\B3 s es=false
 |[],[],i,_=>.inl ⟨rfl,rfl,rfl⟩
 |[],_::_,_,c=>c.elim
 |_::_,[],_,c=>c.elim
 |e::es,m::ms,i,c=>by
  obtain⟨⟨r,h2,q⟩,c⟩:=c
  have d:Instr.sameNow .string (.string s) m.key=some (GP s e.1):=by rw[r,<-O3]; rfl
  cases b:GP s e.1 with
  |true =>
   rw[b] at d;exact .inr ⟨e.2,m.val,i,by simp[qT,b],by simp[Instr.findNow,d],h2,q,by simp[B3,b]⟩
  |false =>
   rw[b] at d;rcases zl (s:=s) es ms (i+1) c with⟨l,k,f⟩|⟨v,u,j,l,k,f,p,o⟩
   ·exact .inl ⟨by simp[qT,b,l],by simp[Instr.findNow,d,k],by unfold B3 at f ⊢; rw[List.all_cons,f,b]; rfl⟩
   ·exact .inr ⟨v,u,j,by simp[qT,b,l],by simp[Instr.findNow,d,k],f,p,by unfold B3 at o ⊢; rw[List.all_cons,o]; simp⟩
def Nj (H:HR ν h w) {id:Nat} {es:AS (ByteArray×AV)} {um:Value} (l:lkB h id=.fns es) (j:VR ν h w (.ofn id) um) :
 ∃(b:Nat) (c:Array MapEntry) (d:Nat),um=.map (some b)/\ν id=.map (some b)/\w.heap[b]?=some (.map c d)/\DW ν h w es c.toList:=by
 obtain⟨_,o,k,i⟩:=j;have e:=H.blk id;rw[l] at e;obtain⟨b,c,d,f,h2,m⟩:=e;exact⟨b,c,d,by rw[i,f],f,h2,m⟩
def KA {t:TypeId} {id:Nat} {i v:AV} {um A:Value} {ok:Bool} (H:HR ν h w) (e:mO P h t id i ok some=some v) (O:VR ν h w (.ofn id) um) (hi:VR ν h w i A):ħ P ν h w (Instr.lookup t um A ok) v h:=by
 unfold mO at e
 split at e<;>try (cases e; done)
 rename_i N et K
 split at e<;>try (cases e; done)
 rename_i z k
 split at e<;>try (cases e; done)
 rename_i s es C R;have E:=D7 C;have hi:A=.string s:=hi;subst hi;obtain⟨b,c,J,rfl,_,hb,W⟩:=Nj H R O
 cases d:P.info? et with
 |none=>simp[d] at k
 |some m =>
 cases f:m.zero with
 |none=>simp[d,f] at k
 |some q =>
 simp only[d,f,cz,b9,Option.some.injEq] at k;subst k;have o:∀em,(Instr.checkKey em 10000 N (.string s)).run P w=.ok () w:=fun em=>sd E 9999
 have run:(∀y j,Instr.findNow .string (.string s) c.toList 0=some (some (j,y))->(Instr.lookup t (.map (some b)) (.string s) ok).run P w=.ok (if ok then .tuple #[y,.bool true] else y) w) /\
  (Instr.findNow .string (.string s) c.toList 0=some none->(Instr.lookup t (.map (some b)) (.string s) ok).run P w=.ok (if ok then .tuple #[q,.bool false] else q) w):=by
  constructor
  ·intro y j G;simp only[Instr.lookup,Sem.run_bind,run_underlying K,Result.andThen_ok,Sem.run_pure,Ŷ hb,o];simp[Instr.findKey,run_underlying E,G]
  ·intro G;simp only[Instr.lookup,Sem.run_bind,run_underlying K,Result.andThen_ok,Sem.run_pure,Ŷ hb,o];simp[Instr.findKey,run_underlying E,G,zeroValue,typeInfo,d,f]
 have l:∀{V:AV} {U:Value} {B:Bool},V.isTup=false->VR ν h w V U->VR ν h w (.tup [V,.bool B]) (.tuple #[U,.bool B]):=fun {V U B} x S=>by
  refine⟨#[U,.bool B],rfl,?_,rfl,trivial⟩
  rwa [nc x] at S
 rw[pw] at e;rcases zl (s:=s) es c.toList 0 W with⟨I,p,_⟩|⟨r,u,j,I,p,L,Y,_⟩
 ·rw[I] at e;dsimp only[Option.bind_some] at e;have k:=F1 (ν:=ν) (h:=h) (w:=w) q
  cases ok with
  |false=>cases e; exact ħ.still H (run.2 p) k
  |true=>cases e; exact ħ.still H (run.2 p) (l (F0 q) k)
 ·rw[I] at e;dsimp only[Option.bind_some] at e
  have x:VR ν h w r u:=by
   cases r<;>try cases L
   exact Y
  have T:r.isTup=false:=by cases r<;>first|rfl|cases L
  cases ok with
  |false=>cases e; exact ħ.still H (run.1 _ _ p) x
  |true=>cases e; exact ħ.still H (run.1 _ _ p) (l T x)
def Km {nid:Nat} {t:TypeId} (H:HR ν h w) (c:nid<h.length) (hd:lkB h nid=.dead):ħ P ν h w (Instr.makeMap t none) (.ofn nid) (Ú h nid (.fns [])):=by
 obtain⟨ev,d⟩:=Ev.new (w':=w.alloc (.map #[] 0)) (o:=.map #[] 0) H (id:=nid) (B:=.fns []) (V:=.map (some w.heap.size)) c hd rfl rfl rfl rfl (fun b hb=>by cases hb; rfl) fun ev =>
  ⟨w.heap.size,#[],0,Ç _ _ _,heap_alloc_new w _,trivial⟩
 refine⟨_,_,.map (some w.heap.size),?_,⟨rfl,[],Ð _ c,(Ç _ _ _).symm⟩,d,ev,Ê _ _ _⟩;simp[Instr.makeMap]
def sF {t:TypeId} {id:Nat} {i x:AV} {um p f:Value} (H:HR ν h w) (e:Ť P h t id i x some=some h') (S:VR ν h w (.ofn id) um) (hi:VR ν h w i p) (O:VR ν h w x f) :
 ∃w',(Instr.mapUpdate t um p f).run P w=.ok () w'/\HR ν h' w'/\Ev h.length ν h w ν h' w'/\h'.length=h.length:=by
 unfold Ť at e
 split at e<;>try (cases e; done)
 rename_i N et R
 split at e<;>try (cases e; done)
 rename_i s es u k
 split at e<;>try (cases e; done)
 rename_i A;simp only[bu] at A;cases e;have G:=D7 u;have hi:p=.string s:=hi;subst hi;obtain⟨o,b,c,rfl,L,h2,J⟩:=Nj H k S;have l:id<h.length:=Ģ k (by simp);have y:=Õ h2
 have m:x.isFn=true:=by cases x<;>first|rfl|cases A.2
 have r:VR1 ν h w x f:=by
  cases x<;>try cases m
  exact O
 have z:∀em,(Instr.checkKey em 10000 N (.string s)).run P w=.ok () w:=fun em=>sd G 9999
 have j:Instr.findNow .string (.string s) b.toList 0=some none:=by
  rcases zl (s:=s) es b.toList 0 J with⟨_,U,_⟩|⟨_,_,_,_,_,_,_,K⟩
  ·exact U
  ·rw[A.1] at K; cases K
 have d:∀q,q<w.heap.size->((lkB h id).live=true->¬ć (ν id) q)->({w with heap:=w.heap.setIfInBounds o (.map (b.push {key:=.string s,val:=f,born:=c}) (c+1))}:World).heap[q]?=w.heap[q]?:=fun q _ v=>by
  have:o≠q:=fun T=>v (by rw[k]; rfl) (by rw[L,T]; rfl);simp[cf,this]
 have I:(Blk.fns (es++[(s,x)])).live=true->∀q,ć (ν id) q->((lkB h id).live=true/\ć (ν id) q)\/w.heap.size<=q:=fun _ q v=>.inl ⟨by rw[k]; rfl,v⟩;have ev:=Ev.upd H (B:=.fns (es++[(s,x)])) (V:=ν id) (w':={w with heap:=w.heap.setIfInBounds o (.map (b.push {key:=.string s,val:=f,born:=c}) (c+1))}) l rfl rfl rfl (by simp) d I (by rw[k]; exact⟨⟨_,rfl⟩,Ç _ _ _⟩)
 have C:DW ν h w (es++[(s,x)]) (b.push {key:=.string s,val:=f,born:=c}).toList:=by
  rw[Array.toList_push];exact ä.append J ⟨⟨rfl,m,r⟩,trivial⟩
 have E:=HR.upd H l ev d I ⟨o,b.push {key:=.string s,val:=f,born:=c},c+1,(Ç _ _ _).trans L,by simp[y],C.mono fun _ _ q=>⟨q.1,q.2.1,q.2.2.ev ev⟩⟩;rw[ω] at ev E;refine⟨_,?_,E,ev,Ê _ _ _⟩;simp only[Instr.mapUpdate,Sem.run_bind,run_underlying R,Result.andThen_ok,Ŷ h2,z];simp[Instr.findKey,run_underlying G,j,setObj,Sem.run,h2]
end
end Go.Am
end

noncomputable section
namespace Go.Am
variable [Globs] [É]
section
variable {ν ν':Nat->Value} {w w':World} {P:Program}
def K8 (ν:Nat->Value) (S:St) (w:World) (r:Result Next) (v:AV) (b:St):Prop :=
 ∃ν' w' u,(r=.ok (.value u) w'\/(r=.ok .skip w'/\u=undef))/\VR ν' b.h w' v u/\HR ν' b.h w'/\Ev S.h.length ν S.h w ν' b.h w'/\b.h.length=S.h.length/\b.t=S.t
def ħ.step {S:St} {x:Sem Value} {v:AV} {h':AS Blk} (hd:ħ P ν S.h w x v h') :
 K8 ν S w ((do let u <-x; pure (.value u):Sem Next).run P w) v {t:=S.t,h:=h'}:=by
 obtain⟨ν',w',u,e,h2,d,c,b⟩:=hd;refine⟨ν',w',u,.inl ?_,h2,d,c,b,rfl⟩;simp[e]
def K8.still {S:St} {r:Result Next} {v:AV} {u:Value} (H:HR ν S.h w) (c:r=.ok (.value u) w) (b:VR ν S.h w v u):K8 ν S w r v S :=
 ⟨ν,w,u,.inl c,b,H,Ev.refl _ _ _ _,rfl,rfl⟩
def nN {S:St} {x:Sem Unit} {h':AS Blk} (hd:∃w',x.run P w=.ok () w'/\HR ν h' w'/\Ev S.h.length ν S.h w ν h' w'/\h'.length=S.h.length) :
 K8 ν S w ((do x; pure .skip:Sem Next).run P w) .any {t:=S.t,h:=h'}:=by
 obtain⟨w',e,d,c,b⟩:=hd;refine⟨ν,w',undef,.inr ⟨?_,rfl⟩,trivial,d,c,b,rfl⟩;simp[e]
def M4 {a:AV} {v:Value} {h:AS Blk} (hi:isV0 a=true) (b:VR ν h w a v):VR0 ν h w a v:=by
 have d:a.isFn=false:=by cases a<;>first|rfl|cases hi
 have h2:a.isAgg=false:=by cases a<;>first|rfl|cases hi
 have c:a.isTup=false:=by cases a<;>first|rfl|cases hi
 rwa [nc c,oZ h2,nu d] at b
def ä.of_map {α β γ:Type} {R:β->γ->Prop} {f:α->β} {g:α->γ}:∀{l:AS α},(∀x∈l,R (f x) (g x))->ä R (l.map f) (l.map g)
 |[],_=>trivial
 |x::l,h=>⟨h x (by simp),ä.of_map fun y b=>h y (by simp[b])⟩
def O6 (k:IntKind) (a b:Int):(Builtin.max2 (.int k a) (.int k b)).run P w=.ok (.int k (I9 a b)) w:=rfl
def O5 (k:IntKind) (a b:Int):(Builtin.min2 (.int k a) (.int k b)).run P w=.ok (.int k (Lc a b)) w:=rfl
def LB {S:St} {a:Act} {x y:Operand} (h:rg x y=true):a.eval x=a.eval y:=by
 unfold rg at h
 split at h
 ·have:=eq_of_beq h; subst this; rfl
 ·have:=of_decide_eq_true h; subst this; rfl
 ·cases h
def Ē {α β:Type} {x:AN α} {f:α->AN β} {r:β} (h:x.bind f=some r):∃a,x=some a/\f a=some r:=by
 cases x with
 |none=>cases h
 |some a=>exact⟨a,rfl,h⟩
def arr1 {α:Type} {a:Array α} {x:α} (h:a.toList=[x]):a=#[x]:=cX (by simpa using h)
def arr2 {α:Type} {a:Array α} {x y:α} (h:a.toList=[x,y]):a=#[x,y]:=cX (by simpa using h)
def ξ {S:St} {a:Act} {o:Oper} {b:Builtin} {d:Array Operand} {tys:Array TypeId} {f:Array TypeId->TypeId->Array Value->Sem Value} (e:o.op=.call ⟨.builtin b,d,tys⟩)
 (hb:∀c vs,builtin b tys o.type c vs=(do pure (.value (<-f tys o.type vs)):Sem Next)) :
 execOp a.eval o=(do let u <-f tys o.type (d.map a.eval); pure (.value u)):=by
 unfold execOp;rw[e];simp only[resolve,pure_bind,invoke,hb]
def Pf {S S':St} {a:Act} {o:Oper} {nid:Nat} {eat:Bool} {v:AV} {clone:Nat->Bool} (H:Sim ν S a w) (hn:ð clone o.op=true->nid<S.h.length/\lkB S.h nid=.dead)
 (e:opR P S nid eat o.op=some (v,S')):K8 ν S w ((execOp a.eval o).run P w) v S':=by
 have G:=H.heap
 cases A:o.op with
 |move x =>
  rw[A] at e; cases e;exact K8.still G (by unfold execOp; rw[A]; rfl) (ù H x)
 |assign x =>
  rw[A] at e; cases e;exact K8.still G (by unfold execOp; rw[A]; rfl) (ù H x)
 |pick c x y =>
  rw[A] at e;simp only[opR,opK] at e
  split at e<;>try (cases e; done)
  rename_i b hb;have R:=ù H c;rw[hb] at R;have R:a.eval c=.bool b:=R
  have E:(execOp a.eval o).run P w=.ok (.value (if b then a.eval x else a.eval y)) w:=by unfold execOp; rw[A]; simp[asBool,R]
  split at e
  ·cases e; exact K8.still G E (ù H x)
  ·cases e; exact K8.still G E (ù H y)
 |box Z x =>
  rw[A] at e;simp only[opR,opK] at e
  split at e<;>try (cases e; done)
  rename_i cs T
  have E:execOp a.eval o=(do let u <-Instr.box Z (a.eval x); pure (.value u)):=by unfold execOp; rw[A]
  rw[E]
  split at e
  ·split at e<;>try (cases e; done)
   split at e<;>try (cases e; done)
   rename_i y J;cases e;exact(Sb G T J (ù H x)).step
  ·cases e;obtain⟨B,h2⟩:=hn (by rw[A]; rfl);exact(box_ok G B h2 T (ù H x)).step
 |alloc Z =>
  rw[A] at e;simp only[opR,opK] at e
  split at e<;>try (cases e; done)
  rename_i z hz
  split at e<;>try (cases e; done)
  rename_i cs T;cases e;obtain⟨B,h2⟩:=hn (by rw[A]; rfl)
  have E:execOp a.eval o=(do let u <-Instr.alloc Z true (.tuple #[]); pure (.value u)):=by unfold execOp; rw[A]
  rw[E];exact(Qf G B h2 hz T).step
 |build t ps =>
  rw[A] at e;simp only[opR,opK] at e
  have E:execOp a.eval o=(do let u <-Instr.build t (ps.map fun(i,x)=>(i,a.eval x)); pure (.value u)):=by unfold execOp; rw[A]
  rw[E]
  split at e<;>try (cases e; done)
  ·rename_i fs K
   split at e<;>try (cases e; done)
   rename_i hfs
   split at e<;>try (cases e; done)
   rename_i z hz
   split at e<;>try (cases e; done)
   rename_i zs hzs
   split at e<;>try (cases e; done)
   rename_i cs T;cases e;exact(A0 H K hfs hz hzs T).step
  ·rename_i n Z K
   split at e<;>try (cases e; done)
   rename_i sz z W hz
   split at e<;>try (cases e; done)
   rename_i zs hzs
   split at e<;>try (cases e; done)
   rename_i cs T;cases e;exact(HN H K W hz hzs T).step
 |buildSlice t n ps =>
  rw[A] at e
  have E:execOp a.eval o=(do let u <-Instr.buildSlice t n (ps.map fun(i,x)=>(i,a.eval x)); pure (.value u)):=by unfold execOp; rw[A]
  rw[E];obtain⟨B,h2⟩:=hn (by rw[A]; rfl);simp only[opR,opK] at e
  split at e
  ·rw[uk] at e;obtain⟨⟨N,h'⟩,L,U⟩:=Ē e;cases U;exact(RQ H B h2 L).step
  split at e<;>try (cases e; done)
  rename_i Z hel
  split at e<;>try (cases e; done)
  rename_i ty hty
  split at e<;>try (cases e; done)
  rename_i R;simp only[bu,beq_iff_eq,decide_eq_true_eq] at R
  split at e<;>try (cases e; done)
  rename_i xs hxs;cases e;exact(DH H B h2 hel R.1 R.2.1 R.2.2 hxs).step
 |load t x =>
  rw[A] at e;simp only[opR,opK] at e;rw[lQ] at e;obtain⟨N,B,h2⟩:=Ē e;cases h2
  have E:execOp a.eval o=(do let u <-Instr.loadAt t (a.eval x); pure (.value u)):=by unfold execOp; rw[A]
  rw[E];obtain⟨u,L,U⟩:=ML G B (ù H x);exact(ħ.still G L U).step
 |store t x y =>
  rw[A] at e;simp only[opR,opK] at e
  have E:execOp a.eval o=(do Instr.storeAt t (a.eval x) (a.eval y); pure .skip):=by unfold execOp; rw[A]
  rw[E]
  split at e
  ·split at e<;>try (cases e; done)
   rename_i id g lo n hsub
   split at e<;>try (cases e; done)
   rename_i ty g' xs hl
   split at e<;>try (cases e; done)
   rename_i R;simp only[bu,beq_iff_eq,decide_eq_true_eq] at R;obtain⟨rfl,hln⟩:=R;rw[iU] at e;obtain⟨h',B,h2⟩:=Ē e;cases h2;have J:=ù H y;rw[hsub] at J;obtain⟨ν1,v1,H1,ev1⟩:=RO G hl hln J;obtain⟨w',k1,k2,k3,k4⟩:=Ih H1 B ((ù H x).ev ev1) v1;refine⟨ν1,w',undef,.inr ⟨?_,rfl⟩,trivial,k2,ev1.trans k3 (dA (Ê _ _ _).symm),k4.trans (Ê _ _ _),rfl⟩;simp[k1]
  ·rw[iU] at e;obtain⟨h',B,h2⟩:=Ē e;cases h2;exact nN (Ih G B (ù H x) (ù H y))
 |nilCheck x =>
  rw[A] at e;simp only[opR,opK] at e;have C:=ù H x
  split at e<;>try (cases e; done)
  ·rename_i id off he;cases e;rw[he] at C;have V:=C;obtain⟨cs,b,B,h2,L⟩:=V;exact K8.still G (by unfold execOp; rw[A]; simp only[L]; rfl) (L▸C)
  ·rename_i t x' off he;cases e;rw[he] at C;have V:=C;obtain⟨b,o',us,L,U⟩:=V;exact K8.still G (by unfold execOp; rw[A]; simp only[L]; rfl) (L▸C)
  ·rename_i id g i off he
   split at e<;>try (cases e; done)
   rename_i t g' fz xs hl
   split at e<;>try (cases e; done)
   rename_i hgg;cases e;rw[he] at C;have V:=C;obtain⟨ho,t2,g2,fz2,xs2,hl2,hle,hf⟩:=V;rw[hl] at hl2; cases hl2;obtain⟨_,b,o',cap,_,L⟩:=hf (eq_of_beq hgg);exact K8.still G (by unfold execOp; rw[A]; simp only[L]; rfl) (L▸C)
 |binOp op t x y yt =>
  rw[A] at e;simp only[opR,opK] at e
  have E:execOp a.eval o=(do let u <-(do eqGuard op t x y (a.eval x) (a.eval y); binOp op t (a.eval x) (a.eval y)); pure (.value u)):=by unfold execOp; rw[A]
  rw[E]
  split at e
  ·rename_i hnil
   have J:y=.const .nilIface:=by
    unfold QF at hnil
    split at hnil
    ·rfl
    ·cases hnil
   subst J;rw[pv] at e;obtain⟨N,B,h2⟩:=Ē e;cases h2;exact(ifc_ok x G B (ù H x)).step
  ·rw[pQ] at e;obtain⟨N,B,h2⟩:=Ē e;cases h2;exact(P8 x y G B (ù H x) (ù H y)).step
 |unOp op t x =>
  rw[A] at e;simp only[opR,opK] at e
  have E:execOp a.eval o=(do let u <-Op.unary op (a.eval x); pure (.value u)):=by unfold execOp; rw[A]
  rw[E];have C:=ù H x
  split at e<;>try (cases e; done)
  ·rename_i b he;cases e;rw[he] at C;exact(Ll (op:=.not) G C rfl).step
  ·rename_i k n he;rw[rS] at e;obtain⟨N,B,h2⟩:=Ē e;cases h2;rw[he] at C;exact(Ll (op:=.neg) G C B).step
 |convert src dst x =>
  rw[A] at e;simp only[opR,opK] at e
  have E:execOp a.eval o=(do let u <-convert src dst (a.eval x); pure (.value u)):=by unfold execOp; rw[A]
  rw[E];have C:=ù H x
  split at e<;>try (cases e; done)
  ·rename_i d k k' n W hd he;cases e;rw[he] at C;have C:a.eval x=.int k' n:=C;refine(ħ.still (v:=.int k (k.wrap n)) (u:=.int k (k.wrap n)) G ?_ rfl).step;rw[C];simp only[convert,Sem.run_bind,run_underlying W,run_underlying hd,Result.andThen_ok];simp[Conv.intToInt]
  ·rename_i Z W hd
   split at e<;>try (cases e; done)
   rename_i hu8;rw[jc] at e;obtain⟨N,B,h2⟩:=Ē e;cases h2;exact(P6 G W hd (OO hu8) C B).step
 |makeFunc fn first caps =>
  rw[A] at e;simp only[opR,opK] at e
  split at e<;>try (cases e; done)
  rename_i R;simp only[bu,bR] at R;cases e
  have E:execOp a.eval o=(do let u <-Instr.makeFunc fn (first.map a.eval) (caps.map a.eval); pure (.value u)):=by unfold execOp; rw[A]
  rw[E];refine(ħ.still (v:=.fn fn (first.toList.map (ev S.t)) (caps.toList.map (ev S.t))) (u:=.func fn (first.map a.eval) (caps.map a.eval)) G rfl ⟨_,_,rfl,?_,?_⟩).step
  ·rw[dU];exact ä.of_map fun x E=>M4 (R.1 _ (List.mem_map_of_mem E)) (ù H x)
  ·rw[dU];exact ä.of_map fun x E=>M4 (R.2 _ (List.mem_map_of_mem E)) (ù H x)
 |makeMap t r =>
  rw[A] at e;simp only[opR,opK] at e
  split at e<;>try (cases e; done)
  rename_i kt et K;obtain⟨B,h2⟩:=hn (by rw[A]; rfl)
  have E:execOp a.eval o=(do let u <-Instr.makeMap t none; pure (.value u)):=by unfold execOp; rw[A]; rfl
  rw[E]
  split at e<;>try (cases e; done)
  ·rename_i k N hk C
   split at e<;>try (cases e; done)
   cases e;exact(Kl k N G B h2).step
  ·split at e<;>try (cases e; done)
   cases e;exact(Km G B h2).step
 |makeSlice t l c =>
  rw[A] at e;simp only[opR,opK] at e
  split at e<;>try (cases e; done)
  rename_i k n Z hsame hl hel
  split at e<;>try (cases e; done)
  rename_i ty hty
  split at e<;>try (cases e; done)
  rename_i hrow
  split at e<;>try (cases e; done)
  rename_i zs hzs
  split at e<;>try (cases e; done)
  rename_i z hz
  split at e<;>try (cases e; done)
  rename_i hb;simp only[bu,decide_eq_true_eq,ã] at hb;cases e;obtain⟨B,h2⟩:=hn (by rw[A]; rfl);have C:=ù H l;rw[hl] at C;have C:a.eval l=.int k n:=C
  have R:a.eval c=.int k n:=by rw[<-LB (S:=S) hsame,C]
  have E:execOp a.eval o=(do let u <-Instr.makeSlice t (.int k n) (.int k n); pure (.value u)):=by unfold execOp; rw[A]; simp only[C,R]
  rw[E];exact(EX G B h2 hel hrow hzs hz hb.1 hb.2).step
 |slice t x lo hi mx =>
  rw[A] at e;simp only[opR,opK] at e
  split at e<;>try (cases e; done)
  all_goals
   have E:execOp a.eval o=(do let u <-Instr.sliceAt t (a.eval x) (lo.map a.eval) (hi.map a.eval) none; pure (.value u)):=by unfold execOp; rw[A]; rfl
   rw[E]
  ·rename_i Z K
   split at e<;>try (cases e; done)
   rename_i sz W;rw[pb] at e;obtain⟨⟨N,h'⟩,B,h2⟩:=Ē e;cases h2;refine(OZ G K W B (ù H x) (fun y J=>?_) (fun J=>?_) (fun y J=>?_) (fun J=>?_)).step
   ·cases lo with
    |none=>cases J
    |some l=>cases J; exact⟨_,rfl,ù H l⟩
   ·cases lo with
    |none=>rfl
    |some l=>cases J
   ·cases hi with
    |none=>cases J
    |some l=>cases J; exact⟨_,rfl,ù H l⟩
   ·cases hi with
    |none=>rfl
    |some l=>cases J
  ·rename_i K;have C:=ù H x
   split at e<;>try (cases e; done)
   rename_i s W;rw[W] at C;have C:a.eval x=.string s:=C;rw[Ŵ] at e;obtain⟨N,B,h2⟩:=Ē e;cases h2;rw[C];refine(GI G K B (fun y J=>?_) (fun J=>?_) (fun y J=>?_) (fun J=>?_)).step
   ·cases lo with
    |none=>cases J
    |some l=>cases J; exact⟨_,rfl,ù H l⟩
   ·cases lo with
    |none=>rfl
    |some l=>cases J
   ·cases hi with
    |none=>cases J
    |some l=>cases J; exact⟨_,rfl,ù H l⟩
   ·cases hi with
    |none=>rfl
    |some l=>cases J
 |fieldAddr t x f =>
  rw[A] at e;simp only[opR,opK] at e
  split at e<;>try (cases e; done)
  rename_i fs K
  split at e<;>try (cases e; done)
  rename_i fd hf
  split at e<;>try (cases e; done)
  rename_i n W;rw[iX] at e;obtain⟨N,B,h2⟩:=Ē e;cases h2
  have E:execOp a.eval o=(do let u <-Instr.fieldAt t (a.eval x) f; pure (.value u)):=by unfold execOp; rw[A]
  rw[E];exact(FU G K hf W B (ù H x)).step
 |field t x f =>
  rw[A] at e;simp only[opR,opK] at e;have C:=ù H x
  split at e<;>try (cases e; done)
  rename_i fs cs K R
  split at e<;>try (cases e; done)
  rename_i fd hf
  split at e<;>try (cases e; done)
  rename_i agg n hl
  split at e<;>try (cases e; done)
  rename_i ds hg
  split at e<;>try (cases e; done)
  rename_i N Y;cases e;rw[R] at C
  have E:execOp a.eval o=(do let u <-Instr.field t (a.eval x) f; pure (.value u)):=by unfold execOp; rw[A]
  rw[E];exact(PM G K hf hl hg Y C).step
 |indexAddr t x i =>
  rw[A] at e;simp only[opR,opK] at e
  have E:execOp a.eval o=(do let u <-Instr.indexAt t (a.eval x) (a.eval i); pure (.value u)):=by unfold execOp; rw[A]
  rw[E]
  split at e<;>try (cases e; done)
  ·rename_i Z K
   split at e<;>try (cases e; done)
   rename_i sz W;rw[i8] at e;obtain⟨N,B,h2⟩:=Ē e;cases h2;exact(PG G K W B (ù H x) (ù H i)).step
  ·rename_i n Z K;have C:=ù H x;have hi:=ù H i
   split at e<;>try (cases e; done)
   rename_i id off k j hx' hi'
   split at e<;>try (cases e; done)
   rename_i sz W;rw[Ŝ] at e;obtain⟨q,B,h2⟩:=Ē e;obtain⟨rfl,_,hb⟩:=uL B;cases h2;rw[hx'] at C;rw[hi'] at hi;have hi:a.eval i=.int k (q:Int):=hi;rw[hi];have:=(y9 G K (j:=(q:Int)) (k:=k) ⟨by omega,by omega⟩ W C).step;simpa using this
 |index t x i =>
  rw[A] at e;simp only[opR,opK] at e
  have E:execOp a.eval o=(do let u <-Instr.index t (a.eval x) (a.eval i); pure (.value u)):=by unfold execOp; rw[A]
  rw[E];have C:=ù H x;have hi:=ù H i
  split at e<;>try (cases e; done)
  ·rename_i n Z cs k j K hx' hi';rw[Ŝ] at e;obtain⟨q,B,h2⟩:=Ē e;obtain⟨rfl,_,hb⟩:=uL B
   split at h2<;>try (cases h2; done)
   rename_i agg m hl
   split at h2<;>try (cases h2; done)
   rename_i ds hg
   split at h2<;>try (cases h2; done)
   rename_i N Y;cases h2;rw[hx'] at C;rw[hi'] at hi;have hi:a.eval i=.int k (q:Int):=hi;rw[hi];exact(Hx G K (j:=(q:Int)) (k:=k) ⟨by omega,by omega⟩ hl (by simpa using hg) Y C).step
  ·rename_i s k j K hx' hi';rw[ŵ] at e;obtain⟨N,B,h2⟩:=Ē e;cases h2;rw[hx'] at C;rw[hi'] at hi;have hi:a.eval i=.int k j:=hi;have C:a.eval x=.string s:=C;rw[hi,C];exact(GJ G K B).step
 |lookup t m i ok =>
  rw[A] at e;simp only[opR,opK] at e
  have E:execOp a.eval o=(do let u <-Instr.lookup t (a.eval m) (a.eval i) ok; pure (.value u)):=by unfold execOp; rw[A]
  rw[E];have Y:=ù H m
  split at e
  ·rename_i id hid;rw[hid] at Y;rw[gk] at e;obtain⟨N,B,h2⟩:=Ē e;cases h2;exact(KA G B Y (ù H i)).step
  ·rw[gj] at e;obtain⟨N,B,h2⟩:=Ē e;cases h2;exact(MH G B Y (ù H i)).step
 |mapUpdate t m i x =>
  rw[A] at e;simp only[opR,opK] at e
  have E:execOp a.eval o=(do Instr.mapUpdate t (a.eval m) (a.eval i) (a.eval x); pure .skip):=by unfold execOp; rw[A]
  rw[E];have Y:=ù H m
  split at e
  ·rename_i id hid;rw[hid] at Y;rw[Ν] at e;obtain⟨h',B,h2⟩:=Ē e;cases h2;exact nN (sF G B Y (ù H i) (ù H x))
  ·rw[Μ] at e;obtain⟨h',B,h2⟩:=Ē e;cases h2;exact nN (wd G B Y (ù H i) (ù H x))
 |insert t m i x =>
  rw[A] at e;simp only[opR,opK] at e
  have E:execOp a.eval o=(do Instr.mapUpdate t (a.eval m) (a.eval i) (a.eval x); pure .skip):=by unfold execOp; rw[A]
  rw[E];have Y:=ù H m
  split at e
  ·rename_i id hid;rw[hid] at Y;rw[Ν] at e;obtain⟨h',B,h2⟩:=Ē e;cases h2;exact nN (sF G B Y (ù H i) (ù H x))
  ·rw[Μ] at e;obtain⟨h',B,h2⟩:=Ē e;cases h2;exact nN (wd G B Y (ù H i) (ù H x))
 |extract x i =>
  rw[A] at e;simp only[opR,opK] at e;have C:=ù H x
  split at e<;>try (cases e; done)
  rename_i vs hvs
  split at e<;>try (cases e; done)
  rename_i N V;cases e;rw[hvs] at C;obtain⟨us,hu,h2⟩:=C;obtain⟨u,L,U⟩:=h2.get V;refine K8.still G (u:=u) (by unfold execOp; rw[A]; simp only[hu]; simp at L; simp[Instr.extract,L]) ?_
  cases K:v.isTup with
  |true =>
   cases v<;>try cases K
   exact U.elim
  |false=>rw[nc K]; exact U
 |call c =>
  obtain⟨f,args,tys⟩:=c;rw[A] at e
  cases f with
  |value f=>cases e
  |invoke r n=>cases e
  |builtin b =>
   simp only[opR,opK] at e
   split at e
   ·-- len
    rename_i x t rest I O;rw[pq] at e;obtain⟨N,B,h2⟩:=Ē e;cases h2;rw[ξ (S:=S) (f:=Builtin.len_) A (fun _ _=>rfl),arr1 I,show Array.map a.eval #[x]=#[a.eval x] by simp]
    have ht0:tys[0]?=some t:=by rw[<-dM,O]; rfl
    exact(len_ok G B (ù H x) ht0).step
   ·rename_i s x t t' I O;obtain⟨B,h2⟩:=hn (by rw[A]; rfl);rw[ξ (S:=S) (f:=Builtin.append_) A (fun _ _=>rfl),arr2 I,arr2 O,show Array.map a.eval #[s,x]=#[a.eval s,a.eval x] by simp]
    split at e
    ·rename_i htt;have htt:=eq_of_beq htt;subst htt;have hvx:=ù H x
     split at e
     ·rename_i id g hdp;rw[hdp] at hvx;rw[un] at e;obtain⟨⟨N,h'⟩,L,U⟩:=Ē e;cases U;exact(RT G B h2 L (ù H s) hvx).step
     ·rw[m9] at e;obtain⟨⟨N,h'⟩,L,U⟩:=Ē e;cases U;exact(Oi G B h2 L (ù H s) hvx).step
    ·split at e<;>try (cases e; done)
     rename_i hu;rw[o8] at e;obtain⟨⟨N,h'⟩,L,U⟩:=Ē e;cases U;exact(OJ G B h2 hu L (ù H s) (ù H x)).step
   ·rename_i x t I O
    split at e<;>try (cases e; done)
    rename_i d hd;rw[pO] at e;obtain⟨h',B,h2⟩:=Ē e;cases h2;rw[ξ (S:=S) (f:=Builtin.clear_) A (fun _ _=>rfl),arr1 I,show Array.map a.eval #[x]=#[a.eval x] by simp]
    have ht0:tys[0]?=some t:=by rw[<-dM,O]; rfl
    exact(PV ht0 G B (by rw[hd]; rfl) (ù H x)).step
   ·rename_i x t rest I O
    split at e<;>try (cases e; done)
    rename_i Z K E;cases e;have C:=ù H x;rw[E] at C;have C:a.eval x=.slice none 0 0:=C;rw[ξ (S:=S) (f:=Builtin.cap_) A (fun _ _=>rfl),arr1 I]
    have ht0:tys[0]?=some t:=by rw[<-dM,O]; rfl
    exact(ħ.still (v:=.int .i64 0) (u:=.int .i64 0) G (by simp[Builtin.cap_,ht0,C,run_underlying K,goInt]) rfl).step
   ·rename_i x xs I;rw[Ŕ] at e;obtain⟨N,B,h2⟩:=Ē e;cases h2;rw[ξ (S:=S) (f:=Builtin.min_) A (fun _ _=>rfl)];obtain⟨u,L,U⟩:=yf (P:=P) (f:=Builtin.min2) (gt:=false) (fun k p q=>O5 k p q) (xs.map (ev S.t)) (xs.map a.eval) _ v (a.eval x) B (ù H x) (ä.of_map fun y _=>ù H y);refine(ħ.still G ?_ U).step;simp only[Builtin.min_,dU,I,cm];exact L
   ·rename_i x xs I;rw[Ŕ] at e;obtain⟨N,B,h2⟩:=Ē e;cases h2;rw[ξ (S:=S) (f:=Builtin.max_) A (fun _ _=>rfl)];obtain⟨u,L,U⟩:=yf (P:=P) (f:=Builtin.max2) (gt:=true) (fun k p q=>O6 k p q) (xs.map (ev S.t)) (xs.map a.eval) _ v (a.eval x) B (ù H x) (ä.of_map fun y _=>ù H y);refine(ħ.still G ?_ U).step;simp only[Builtin.max_,dU,I,cm];exact L
   ·cases e
 |_=>rw[A] at e; cases e
end
end Go.Am
end

noncomputable section
namespace Go.Am
variable [Globs] [É]
def ċ (nid:Nat) (h h':AS Blk):Prop:=∀j,j≠nid->lkB h j=.dead->lkB h' j=.dead
def ċ.refl (nid:Nat) (h:AS Blk):ċ nid h h:=fun _ _ hd=>hd
def ċ.upd {nid id:Nat} {h:AS Blk} (B:Blk) (b:id=nid\/lkB h id≠.dead):ċ nid h (Ú h id B):=fun j c hd=>by
 rw[È]
 ·exact hd
 ·rintro rfl;rcases b with rfl|b
  ·exact c rfl
  ·exact b hd
def ċ.trans {nid:Nat} {h h' b:AS Blk} (d:ċ nid h h') (h2:ċ nid h' b):ċ nid h b:=fun j c hd=>h2 j c (d j c hd)
def ċ.upd2 {nid i j:Nat} {h:AS Blk} (A B:Blk) (hi:lkB h i≠.dead) (c:j=nid\/lkB h j≠.dead):ċ nid h (Ú (Ú h i A) j B):=fun m b hd=>by
 have d:m≠i:=fun e=>hi (by rw[<-e]; exact hd);have h2:m≠j:=fun e=>c.elim (fun q=>b (e.trans q)) fun q=>q (by rw[<-e]; exact hd);rw[È _ h2,È _ d];exact hd
def ċ.frz {nid:Nat} {h:AS Blk} (v:AV):ċ nid h (frz h v):=fun _ _ hd=>Jb hd
def ċ.frzA {nid:Nat} {h:AS Blk} (ps:AS (Nat×AV)):ċ nid h (frzA h ps):=fun _ _ hd=>zd ps hd
def fG {h:AS Blk} {id:Nat} {B:Blk} (b:lkB h id=B) (c:B≠.dead):lkB h id≠.dead:=by rw[b]; exact c
def RE {v:AV} {id:Nat} {h:AS Blk} {k u:Ty} {es:AS (Val k×Val u)} (b:lkB h id=.map k u es):lkB (frz h v) id=.map k u es:=by
 unfold frz; split
 ·exact Dm _ b
 ·exact Je b
def A7 {P:Program} {h h':AS Blk} {t:TypeId} {a v:AV} {nid:Nat} (b:ng P h t a v some=some h'):ċ nid h h':=by
 unfold ng at b
 (repeat' split at b)<;>first
  |(cases b; done)
  |(cases b; exact ċ.upd _ (.inr (fG ‹lkB h _=.cells _› (by simp))))
  |(cases b; exact ċ.upd _ (.inr (fG ‹lkB h _=.deep _ _ _› (by simp))))
  |(cases b; exact(ċ.frz _).trans (ċ.upd _ (.inr (fG ‹lkB (frz h _) _=.row _ _ _ _› (by simp)))))
def L7 {P:Program} {S f:St} {o:Op} {nid:Nat} {eat:Bool} {v:AV} (e:opR P S nid eat o=some (v,f)):ċ nid S.h f.h:=by
 unfold opR opK at e;dsimp only at e
 (repeat' split at e)<;>first
  |(cases e; done)
  |(cases e; exact ċ.refl _ _)
  |(cases e; exact ċ.upd _ (.inl rfl))
  |(cases e; exact(ċ.frzA _).trans (ċ.upd _ (.inl rfl)))
  |(rw[lQ] at e; obtain⟨c,b,h2⟩:=Ē e; cases h2; exact ċ.refl _ _)
  |(rw[pQ] at e; obtain⟨c,b,h2⟩:=Ē e; cases h2; exact ċ.refl _ _)
  |(rw[rS] at e; obtain⟨c,b,h2⟩:=Ē e; cases h2; exact ċ.refl _ _)
  |(rw[iX] at e; obtain⟨c,b,h2⟩:=Ē e; cases h2; exact ċ.refl _ _)
  |(rw[i8] at e; obtain⟨c,b,h2⟩:=Ē e; cases h2; exact ċ.refl _ _)
  |(rw[pv] at e; obtain⟨c,b,h2⟩:=Ē e; cases h2; exact ċ.refl _ _)
  |(rw[jc] at e; obtain⟨c,b,h2⟩:=Ē e; cases h2; exact ċ.refl _ _)
  |(rw[Ŵ] at e; obtain⟨c,b,h2⟩:=Ē e; cases h2; exact ċ.refl _ _)
  |(rw[ŵ] at e; obtain⟨c,b,h2⟩:=Ē e; cases h2; exact ċ.refl _ _)
  |(rw[gk] at e; obtain⟨c,b,h2⟩:=Ē e; cases h2; exact ċ.refl _ _)
  |(rw[gj] at e; obtain⟨c,b,h2⟩:=Ē e; cases h2; exact ċ.refl _ _)
  |(rw[pq] at e; obtain⟨c,b,h2⟩:=Ē e; cases h2; exact ċ.refl _ _)
  |(rw[Ŕ] at e; obtain⟨c,b,h2⟩:=Ē e; cases h2; exact ċ.refl _ _)
  |(rw[iU] at e; obtain⟨h',b,h2⟩:=Ē e; cases h2; exact A7 b)
  | (rw [iU] at e; obtain ⟨h', b, h2⟩ := Ē e; cases h2
     exact(ċ.upd _ (.inr (fG ‹lkB S.h _=.row _ _ _ _› (by simp)))).trans (A7 b))
  | (rw [pb] at e; obtain ⟨⟨c, h'⟩, b, h2⟩ := Ē e; cases h2
     unfold jL at b
     (repeat' split at b)<;>first
      |(cases b; done)
      |(cases b; exact ċ.refl _ _)
      |(cases b; exact ċ.upd _ (.inr (fG ‹lkB S.h _=.row _ _ _ _› (by simp)))))
  | (rw [m9] at e; obtain ⟨⟨c, h'⟩, b, h2⟩ := Ē e; cases h2
     unfold oY at b
     (repeat' split at b)<;>first
      |(cases b; done)
      |(cases b; exact ċ.upd _ (.inl rfl))
      |(cases b; exact ċ.upd _ (.inr (fG ‹lkB S.h _=.row _ _ _ _› (by simp)))))
  | (rw [uk] at e; obtain ⟨⟨c, h'⟩, b, h2⟩ := Ē e; cases h2
     unfold HD at b
     (repeat' split at b)<;>first
      |(cases b; done)
      |(cases b; exact ċ.upd2 _ _ (fG ‹lkB S.h _=.row _ _ _ _› (by simp)) (.inl rfl))
      |(cases b; exact ċ.upd2 _ _ (fG ‹lkB S.h _=.deep _ _ _› (by simp)) (.inl rfl)))
  | (rw [un] at e; obtain ⟨⟨c, h'⟩, b, h2⟩ := Ē e; cases h2
     unfold FZ at b
     split at b<;>try (cases b; done)
     split at b<;>try (cases b; done)
     split at b<;>try (cases b; done)
     rename_i d
     split at b<;>try (cases b; done)
     (repeat' split at b)<;>first
      |(cases b; done)
      |(cases b; exact ċ.upd2 _ _ (fG d (by simp)) (.inl rfl))
      |(cases b; exact ċ.upd2 _ _ (fG d (by simp)) (.inr (fG (by assumption) (by simp)))))
  | (rw [o8] at e; obtain ⟨⟨c, h'⟩, b, h2⟩ := Ē e; cases h2
     unfold vT at b
     (repeat' split at b)<;>first
      |(cases b; done)
      |(cases b; exact ċ.upd _ (.inl rfl)))
  | (rw [pO] at e; obtain ⟨h', b, h2⟩ := Ē e; cases h2
     unfold wy at b
     (repeat' split at b)<;>first
      |(cases b; done)
      |(cases b; exact ċ.refl _ _)
      |(cases b; exact ċ.upd _ (.inr (fG ‹lkB S.h _=.row _ _ _ _› (by simp)))))
  | (rw [Ŝ] at e; obtain ⟨q, b, h2⟩ := Ē e
     (repeat' split at h2)<;>first
      |(cases h2; done)
      |(cases h2; exact ċ.refl _ _))
  | (rw [Ν] at e; obtain ⟨h', b, h2⟩ := Ē e; cases h2
     unfold Ť at b
     (repeat' split at b)<;>first
      |(cases b; done)
      |(cases b; exact ċ.upd _ (.inr (fG ‹lkB S.h _=.fns _› (by simp)))))
  | (rw [Μ] at e; obtain ⟨h', b, h2⟩ := Ē e; cases h2
     unfold ţ at b
     (repeat' split at b)<;>first
      |(cases b; done)
      |(cases b; exact(ċ.frz _).trans (ċ.upd _ (.inr (fG (RE ‹lkB S.h _=.map _ _ _›) (by simp))))))
end Go.Am
end

noncomputable section
namespace Go.Am
variable [Globs] [É]
section
variable {ρ:Type} {ν ν':Nat->Value} {h h':AS Blk} {w w':World} {P:Program}
def Ev.same (d:∀id,lkB h' id=lkB h id) (c:w'.heap=w.heap) (j:w'.os=w.os) (h2:w'.tape=w.tape) (i:w'.output=w.output) (m:Nat):Ev m ν h w ν h' w' :=
 ⟨j,h2,i,by rw[c]; exact bt _,fun b _ hb=>⟨by rw[c],fun⟨id,f,e⟩=>hb ⟨id,by rwa [d] at f,e⟩⟩,fun id _=>by rw[d]; exact Blk.next_refl _ _ _⟩
def HR.same (H:HR ν h w) (d:∀id,lkB h' id=lkB h id) (c:w'.heap=w.heap) (l:w'.os=w.os) (h2:w'.tape=w.tape) (k:w'.output=w.output):HR ν h' w':=by
 refine⟨fun id=>?_,fun i j b e f=>H.inj i j b (by rwa [d] at e) (by rwa [d] at f),fun b hb=>by rw[c]; exact H.ghlt b hb,fun id b e=>H.ghne id b (by rwa [d] at e),Globs.keep _ _ H.glob (fun b _=>by rw[c]),fun b hb ⟨id,e,f⟩=>H.globL b hb ⟨id,by rwa [d] at e,f⟩⟩;rw[d];exact BR.ev (Ev.same d c l h2 k _) (fun b o hb _=>by rw[c]; exact hb) (fun b hb=>by rw[c]) rfl (fun b _ _ _=>by rw[c]) (H.blk id)
def Sim.same {S:St} {a:Act} (H:Sim ν S a w) (d:∀id,lkB h' id=lkB S.h id) (c:w'.heap=w.heap) (f:w'.os=w.os) (h2:w'.tape=w.tape) (e:w'.output=w.output):Sim ν {t:=S.t,h:=h'} a w' :=
 ⟨H.defers.keep (by rw[c]; exact bt _) (fun b o hb _=>by rw[c]; exact hb),H.len,fun i=>(H.tmps i).ev (Ev.same d c f h2 e _),H.heap.same d c f h2 e⟩
def wq:∀(h:AS Blk) (d:Nat),h.length<=d->lkB h d=.dead
 |[],_,_=>rfl
 |x::xs,0,h=>by simp at h
 |x::xs,d+1,h=>by simpa[lkB] using wq xs d (by simpa using h)
def De:∀(h:AS Blk) (n id:Nat),lkB (h++List.replicate n .dead) id=lkB h id
 |[],0,_=>rfl
 |[],n+1,0=>rfl
 |[],n+1,id+1=>by simpa[List.replicate_succ,lkB] using De [] n id
 |x::xs,n,0=>rfl
 |x::xs,n,id+1=>by simpa[lkB] using De xs n id
abbrev fen:Fence:={Fence.wide with round:=É.Q}
def JQ (P:Program) (L:Nat) (call:AS Nat->Bool->Nat->AS AV->AS Blk->(AV->AS Blk->AN ρ)->AN ρ):Prop :=
 ∀path d g b h (K:AV->AS Blk->AN ρ) r,path.length=L->call path d g b h K=some r->∀ν w vals,HR ν h w->É.B<=w.heap.size->ä (VR ν h w) b vals ->
  (∃fn c,P.funcs[g]?=some fn/\fn.body=some c) /\
  CallsIn Fence.wide 0 P g vals.toArray w fun e w'=>∃ν' h' v u,e=.returned u/\VR ν' h' w' v u/\HR ν' h' w'/\Ev h.length ν h w ν' h' w'/\h.length<=h'.length/\(∀j,j<h.length->lkB h j=.dead->lkB h' j=.dead)/\K v h'=some r
def vS (P:Program) (clone:Nat->Bool):Prop :=
 ∀g,clone g=true->∀fz S nid x v b,oT P g fz S nid x (fun v S=>some (v,S))=some (v,b)->∀ν w u,HR ν S.h w->VR ν S.h w x u->nid<S.h.length->lkB S.h nid=.dead ->
  (∃fn c,P.funcs[g]?=some fn/\fn.body=some c) /\
  CallsIn Fence.wide 0 P g #[u] w fun e w'=>∃ν' u',e=.returned u'/\VR ν' b.h w' v u'/\HR ν' b.h w'/\Ev S.h.length ν S.h w ν' b.h w'/\S.h.length<=b.h.length/\ċ nid S.h b.h/\b.t=S.t
def vD (P:Program) (g:Nat) (fz:Bool) (S:St) (nid:Nat) (x:AV) (K:AV->St->AN ρ):oT P g fz S nid x K=(oT P g fz S nid x fun v S=>some (v,S)).bind fun r=>K r.1 r.2:=by
 unfold oT; (repeat' split)<;>rfl
def Aft (m:Nat) (ν:Nat->Value) (h:AS Blk) (w:World) (K:St->AN ρ) (r:ρ) (c:Act) (w':World):Prop :=
 ∃ν' b,Sim ν' b c w'/\Ev m ν h w ν' b.h w'/\h.length<=b.h.length/\K b=some r
def Aft.trans {m f:Nat} {K:St->AN ρ} {r:ρ} {i:Act} {ν b:Nat->Value} {h c:AS Blk} {w d w':World} (e:Ev m ν h w b c d) (k:h.length<=c.length) (j:m<=f) (ha:Aft f b c d K r i w'):Aft m ν h w K r i w':=by
 obtain⟨ν',q,p,h2,o,l⟩:=ha;exact⟨ν',q,p,e.trans h2 j,bG k o,l⟩
def op_nid {S:St} {o:Op} {nid nid':Nat} {eat:Bool} {clone:Nat->Bool} (d:ð clone o=false):opR P S nid eat o=opR P S nid' eat o:=by
 cases o<;>try first|rfl|(cases d; done)
 rename_i c;obtain⟨f,e,tys⟩:=c
 cases f<;>try rfl
 rename_i b
 cases b<;>first|(cases d; done)|rfl|(unfold opR opK; dsimp only; (repeat' split)<;>first|rfl|simp_all)
def YldP (P:Program) (y:YFun):Prop:=∃f:y.ty=É.T,∀(O X:Nat->Prop) (c:AS (Val É.T)) (v:Val É.T) (u:Value) (W:World),É.J O X c W->(∀b,O b->X b)->(∀b,X b->b<W.heap.size)->(c++[v] <+: l8 (F:=fun t=>AS (Val t)) f y.all)->CR W X É.T v [u]->É.B<=W.heap.size ->
 YieldAt Fence.wide 0 P É.L #[u] W fun e d=>e=.returned (.bool (ygo y.stop (l8 (F:=fun t=>AS (Val t)) f y.all) (c++[v])))/\d.os=W.os/\d.tape=W.tape/\d.output=W.output/\W.heap.size<=d.heap.size /\
  ∃us,(∀b,b<W.heap.size->¬O b->d.heap[b]?=W.heap[b]?/\¬ć (.agg us) b)/\(∀b,ć (.agg us) b->∃o,d.heap[b]?=some o/\wH o=true)/\É.J (ć (.agg us)) (fun b=>(X b/\¬O b)\/ć (.agg us) b) (c++[v]) d
def ř (E:Env ρ):Prop:=∀y,E.yld=some y->YldP E.P y
def gE {E:Env ρ} (h:E.yld=none):ř E:=fun y e=>by rw[h] at e; cases e
def QV {α:Type} {all l:AS α} {k:AN ρ} {r:ρ} (h:yg all l k=some r):l <+: all/\k=some r:=by
 unfold yg at h
 split at h
 ·exact⟨‹_›,h⟩
 ·cases h
def JV {t:Ty} (b:t.isAgg=false) {a:AV} {v:Val t} (e:Ï t [a]=some v):a.isAgg=false/\a.isTup=false:=by
 cases t<;>first|(cases b; done)|(cases a<;>first|exact⟨rfl,rfl⟩|cases e)
def GM (h:AS Blk) {a:AV} (e:(ç h a).isAgg=false/\(ç h a).isTup=false):a.isAgg=false/\a.isTup=false:=by
 cases a<;>first|exact⟨rfl,rfl⟩|exact e
def Lh {E:Env ρ} (hy:ř E) {x:AV} {u:Value} {K:AV->AS Blk->AN ρ} {r:ρ} (H:HR ν h w) (hv:VR ν h w x u) (hB:É.B<=w.heap.size) (e:yldK E h x K=some r) :
 YieldAt Fence.wide 0 E.P É.L #[u] w fun e w'=>∃b,e=.returned (.bool b)/\∃ν' h',HR ν' h' w'/\Ev h.length ν h w ν' h' w'/\h'.length=h.length/\(∀j,lkB h j=.dead->lkB h' j=.dead)/\K (.bool b) h'=some r:=by
 unfold yldK at e
 split at e<;>try (cases e; done)
 rename_i y hE
 split at e<;>try (cases e; done)
 rename_i U
 split at e<;>try (cases e; done)
 rename_i J
 split at e<;>try (cases e; done)
 rename_i v l
 split at e<;>try (cases e; done)
 rename_i t xs f
 split at e<;>try (cases e; done)
 rename_i he hq;clear hq;obtain⟨ty,all,stp⟩:=y;obtain⟨hT,hY⟩:=hy _ hE;have R:t=ty:=he;subst R;have W:t=É.T:=hT;subst W;obtain⟨p,hk⟩:=QV e;obtain⟨G,C⟩:=GM h (JV U l);have I:=hv.one G C;obtain⟨Y,k,_⟩:=zf H x;have S:CR w (Av ν (jF h x)) É.T v [u]:=ü l ⟨ze H I J,trivial⟩;have hb:=k.blk 0;rw[f] at hb;obtain⟨us0,h1,h2,h3,h4⟩:=hb;obtain⟨fn,tmps,assign,body,m,hR⟩:=hY _ _ xs v u w h4 (fun b hb=>.inl ⟨0,by rw[f]; rfl,hb⟩) (fun b hb=>k.ltA hb) p S hB;refine⟨fn,tmps,assign,body,m,hR.mono fun e' w' hw=>?_⟩;obtain⟨rfl,o1,o2,o3,o4,us,Z,o6,o7⟩:=hw;refine⟨_,rfl,?_⟩
 have c:(lkB (jF h x) 0).live=true:=by rw[f]; rfl
 have z:0<(jF h x).length:=Ģ f (by simp);have d:∀b,b<w.heap.size->((lkB (jF h x) 0).live=true->¬ć (ν 0) b)->w'.heap[b]?=w.heap[b]?:=fun b hb s=>(Z b hb (s c)).1
 have hV:(Blk.acc É.T (xs++[v])).live=true->∀b,ć (.agg us) b->((lkB (jF h x) 0).live=true/\ć (ν 0) b)\/w.heap.size<=b:=fun _ b hb=>by
  rcases cd b w.heap.size with N|O
  ·by_cases ho:ć (ν 0) b
   ·exact .inl ⟨c,ho⟩
   ·exact absurd hb (Z b N ho).2
  ·exact .inr O
 have A:=Ev.upd k (B:=.acc É.T (xs++[v])) (V:=.agg us) z o1 o2 o3 o4 d hV (by rw[f]; exact⟨_,rfl⟩)
 have H2:HR (Ü ν 0 (.agg us)) (Ú (jF h x) 0 (.acc É.T (xs++[v]))) w':=by
  refine HR.upd k z A d hV ⟨us,Ç _ _ _,?_,rfl,?_⟩
  ·rw[Ç]; exact o6
  ·rw[Ç];refine É.st _ _ _ _ _ _ o7 ⟨rfl,rfl,rfl,bt _,fun b _ s=>?_,fun b o hb _ _=>hb,fun b o hb _ _=>hb,fun _ _ _=>rfl⟩;rintro(⟨i,hi,hb⟩|hg)
   ·by_cases h0:i=0
    ·subst h0; rw[Ç] at hb; exact s (.inr hb)
    ·rw[È _ h0] at hi;rw[ê _ _ h0] at hb;exact s (.inl ⟨.inl ⟨i,hi,hb⟩,fun q=>h0 (k.inj i 0 b hi c hb q)⟩)
   ·exact s (.inl ⟨.inr hg,fun q=>k.ghne 0 b c q hg⟩)
 refine⟨_,_,H2,Y.trans A (by rw[gx]; exact bt _),by rw[Ê,gx],fun j hj=>?_,hk⟩;have hd:lkB (jF h x) j=.dead:=zh hj;rw[È _ (fun q=>by rw[q,f] at hd; cases hd)];exact hd
def GR {E : Env ρ} {call : AS Nat -> Bool -> Nat -> AS AV -> AS Blk -> (AV -> AS Blk -> AN ρ) -> AN ρ} {L : Nat} (N : JQ E.P L call) (hP : ∀ (f : Nat) (fn : Func), E.P.funcs[f]? = some fn -> (fn.name == "runtime.NumGoroutine") = false)
 (C:vS E.P E.clone) (T:ř E)
 {fid:Nat} {path:AS Nat} {z:Bool} {S:St} {a:Act} {nid:Nat} {o:Oper} {K:AV->St->AN ρ} {r:ρ} (hp:path.length=L) (H:Sim ν S a w) (hn:ð E.clone o.op=true->nid<S.h.length/\lkB S.h nid=.dead)
 (e:ŋ E call fid path z S nid o K=some r) {next:Act->World->Prop} {Q:Exit->Act->World->Prop}
 (hk:∀(ν':Nat->Value) (w':World) (u:Value) (v:AV) (k:St),VR ν' k.h w' v u->HR ν' k.h w'->Ev S.h.length ν S.h w ν' k.h w'->S.h.length<=k.h.length->(∀j,j<S.h.length->j≠nid\/ð E.clone o.op=false->lkB S.h j=.dead->lkB k.h j=.dead)->k.t=S.t->K v k=some r->next (a.put o.dst u) w') :
 o.wpIn fen 0 E.P a w next Q:=by
 refine⟨fun _ _=>trivial,?_⟩
 have hnd:∀c,o.op≠.defer c:=by
  intro c R;unfold ŋ at e
  split at e<;>try (cases e; done)
  split at e
  ·rename_i i;rw[R] at i; cases i
  ·rw[R] at e;cases e
 rw[Oper.semAt_eq _ _ _ hnd]
 have plain:∀v k,opR E.P S nid (AP E z fid o) o.op=some (v,k)->K v k=some r->o.uponIn fen 0 E.P a next Q ((execOp a.eval o).run E.P w):=by
  intro v k A h2;obtain⟨ν',w',u,O,h4,h5,h6,h7,h8⟩:=Pf (clone:=E.clone) H hn A
  have:=hk ν' w' u v k h4 h5 h6 (dA h7.symm) (fun j _ G hd=>by
   rcases G with G|hal
   ·exact L7 A j G hd
   ·rw[op_nid (nid':=j+1) hal] at A
    exact L7 A j (by omega) hd) h8 h2
  rcases O with O|⟨O,rfl⟩
  ·rw[O]; exact this
  ·rw[O]; exact this
 unfold ŋ at e
 split at e<;>try (cases e; done)
 split at e
 ·rename_i f s tys i
  split at e<;>try (cases e; done)
  rotate_left
  ·rename_i p
   split at e<;>try (cases e; done)
   rename_i x d
   have I:a.eval f=.func (.yield É.L) #[] #[]:=by
    have:=ù H f;rw[p] at this;exact this
   obtain⟨fn,tmps,assign,body,W,hR⟩:=Lh T H.heap (ù H x) H.defers.bnd e
   have U:(execOp a.eval o).run E.P w=.ok (.round É.L fn tmps assign body) w:=by
    rw[<-W];unfold execOp;rw[i,arr1 d];simp[resolve,I,Deferred.ofValue,invoke,Sem.run_bind,Result.andThen_ok,callFunc,run_program]
   rw[U,Oper.uponIn_round];refine⟨fun p=>(by cases p),RoundIn.mono (show RoundIn fen 0 E.P _ _ _ _ _ _ _ from hR) fun e' w' V=>?_⟩;obtain⟨b,rfl,ν',h',g1,g2,g3,g4,g5⟩:=V;exact hk ν' w' (.bool b) (.bool b) {t:=S.t,h:=h'} rfl g1 g2 (dA g3.symm) (fun j _ _ hd=>g4 j hd) rfl g5
  rename_i g first caps p;have Z:=ù H f;rw[p] at Z;obtain⟨fs,cs,I,B,J⟩:=Z
  split at e
  ·rename_i l
   split at e<;>try (cases e; done)
   rename_i x d;rw[vD] at e;obtain⟨⟨v,k⟩,A,h2⟩:=Ē e;simp only[bu] at l;obtain⟨l,Y⟩:=l
   have hfg:f=.func g:=by
    cases f<;>try (cases Y; done)
    simp only[ev] at p
    injection p with q1
    injection q1 with q1
    rw[q1]
   subst hfg;obtain⟨hn1,hn2⟩:=hn (by rw[i]; exact l);obtain⟨⟨fn,c,y,m⟩,R⟩:=C g l _ S nid _ v k A ν w _ H.heap (ù H x) hn1 hn2
   have U:(execOp a.eval o).run E.P w=.ok (.enter g #[a.eval x]) w:=by
    unfold execOp;rw[i,arr1 d];simp only[resolve,Act.eval,Deferred.ofValue,pure_bind,invoke,callFunc,Sem.run_bind,run_program,Result.andThen_ok,y,hP g fn y,m];simp only[Bool.false_eq_true,if_false,Option.isNone_some];show Result.ok (Next.enter g _) w=_;congr 2;apply Array.ext'
    cases x<;>simp[Act.eval]
   rw[U,Oper.uponIn_enter];refine⟨fun p=>(by cases p),R.mono fun e' w' V=>?_⟩;obtain⟨ν',u',rfl,g1,g2,g3,g4,g6,g5⟩:=V;exact hk ν' w' u' v k g1 g2 g3 g4 (fun j _ G hd=>g6 j (G.resolve_right (by rw[i]; exact fun p=>by rw[show ð E.clone (.call ⟨.value (.func g),s,tys⟩)=E.clone g from rfl,l] at p; cases p)) hd) g5 h2
  ·rename_i l
   have d:ä (VR ν S.h w) (first++(s.toList.map (ev S.t)++caps)) (fs.toList++(s.toList.map a.eval++cs.toList)) :=
    (B.mono fun _ _ q=>q.up.up).append ((ä.of_map fun x _=>ù H x).append (J.mono fun _ _ q=>q.up.up))
   obtain⟨⟨fn,c,y,m⟩,R⟩:=N path z g _ _ _ r hp e ν w _ H.heap H.defers.bnd d
   have U:(execOp a.eval o).run E.P w=.ok (.enter g (fs.toList++(s.toList.map a.eval++cs.toList)).toArray) w:=by
    unfold execOp;rw[i];simp only[resolve,I,Deferred.ofValue,pure_bind,invoke,callFunc,Sem.run_bind,run_program,Result.andThen_ok,y,hP g fn y,m];simp only[Bool.false_eq_true,if_false,Option.isNone_some];show Result.ok (Next.enter g _) w=_;congr 2;apply Array.ext';simp
   rw[U,Oper.uponIn_enter];refine⟨fun p=>(by cases p),R.mono fun e' w' V=>?_⟩;obtain⟨ν',h',v,u,rfl,A,h2,O,h4,h6,h5⟩:=V;exact hk ν' w' u v {t:=S.t,h:=h'} A h2 O h4 (fun j G _ hd=>h6 j G hd) rfl h5
 ·rename_i op hne;rw[CS] at e;obtain⟨⟨v,k⟩,A,h2⟩:=Ē e;exact plain v k A h2
def rW:∀(t:AS AV) (d:Nat),upd t d (lk t d)=t
 |[],_=>rfl
 |_::_,0=>rfl
 |x::t,d+1=>by simp[upd,lk,rW t d]
def Qj (n nid:Nat) (h:AS Blk):Prop:=∀j,nid<=j->j<nid+n->j<h.length/\lkB h j=.dead
def gM {clone:Nat->Bool} {o:Oper} {os:AS Oper}:œ clone (o::os)=bif ð clone o.op then œ clone os+1 else œ clone os:=rfl
def BX {all:AS Oper} {o:Oper} {j:Nat} {b:Bool}:∀{l:AS Oper},ky all l=true->o∈l->o.guard=some (j,b)->∃p d,all[j]?=some p/\p.dst=some d
 |[],_,c,_=>by cases c
 |x::l,f,c,i=>by
  simp only[ky,bu] at f;rcases bC.1 c with rfl|c
  ·have e:=f.1;rw[i] at e;simp only at e
   split at e
   ·rename_i p k;obtain⟨d,hd⟩:=dV.1 e;exact⟨p,d,k,hd⟩
   ·cases e
  ·exact BX f.2 c i
def JS {c:Array Oper} {tmps:Array Value} {j d:Nat} {p:Oper} (i:c.toList[j]?=some p) (hd:p.dst=some d) :
 (∀b,tmps.getD d undef=.bool b->yielded c tmps j=some b)/\(tmps.getD d undef=undef->yielded c tmps j=none):=by
 have e:c[j]?=some p:=by simpa using i
 constructor
 ·intro b hb;unfold yielded;rw[e];simp only[Option.bind_some,hd]
  cases f:tmps[d]? with
  |none=>simp[bS,f,undef] at hb
  |some v=>simp[bS,f] at hb; subst hb; rfl
 ·intro hb;unfold yielded;rw[e];simp only[Option.bind_some,hd]
  cases f:tmps[d]? with
  |none=>rfl
  |some v=>simp[bS,f] at hb; subst hb; rfl
def jd (E:Env ρ) (call:AS Nat->Bool->Nat->AS AV->AS Blk->(AV->AS Blk->AN ρ)->AN ρ) (fid:Nat) (path:AS Nat) (c:Bool) (all:AS Oper) (i nid:Nat) (o:Oper) (S:St) (K:St->AN ρ):AN ρ :=
 match o.guard with
 |none=>ŋ E call fid (path++[i]) c S nid o fun v S=>K {t:=é S.t o.dst v,h:=S.h}
 |some (j,want)=>match lk S.t (iL all j) with
  |.bool b=>match b==want with
   |true=>ŋ E call fid (path++[i]) c S nid o fun v S=>K {t:=é S.t o.dst v,h:=S.h}
   |false=>K {t:=é S.t o.dst .und,h:=S.h}
  |.und=>K {t:=é S.t o.dst .und,h:=S.h}
  |_=>none
def L3 {E:Env ρ} {call:AS Nat->Bool->Nat->AS AV->AS Blk->(AV->AS Blk->AN ρ)->AN ρ} {fid:Nat} {path:AS Nat} {c:Bool} {all:AS Oper} {o:Oper} {os:AS Oper} {i nid:Nat} {S:St} {K:St->AN ρ} :
 Kc E call fid path c all (o::os) i nid S K=jd E call fid path c all i nid o S fun m=>Kc E call fid path c all os (i+1) (bif ð E.clone o.op then nid+1 else nid) m K:=by
 simp only[Kc,jd]
 have f:∀d b,lk S.t d=.bool b->({t:=upd S.t d (.bool b),h:=S.h}:St)=S:=fun d b hb=>by rw[<-hb,rW]
 have e:∀d b,lk S.t d=.bool b->upd S.t d (.bool b)=S.t:=fun d b hb=>by rw[<-hb,rW]
 cases o.guard with
 |none=>rfl
 |some g =>
  obtain⟨j,k⟩:=g;simp only
  cases hb:lk S.t (iL all j)<;>try rfl
  rename_i b;have l:=f _ b hb;have h2:=e _ b hb
  cases b<;>cases k<;>simp only[l,h2]<;>rfl
def xI {E : Env ρ} {call : AS Nat -> Bool -> Nat -> AS AV -> AS Blk -> (AV -> AS Blk -> AN ρ) -> AN ρ} {L : Nat} (z : JQ E.P L call) (Z : ∀ (f : Nat) (fn : Func), E.P.funcs[f]? = some fn -> (fn.name == "runtime.NumGoroutine") = false)
 (m:vS E.P E.clone) (B:ř E) {fid:Nat} {path:AS Nat} {q:Bool} {c:Array Oper} (Y:ky c.toList c.toList=true)
 {S:St} {a:Act} {nid i:Nat} {o:Oper} {K:St->AN ρ} {r:ρ} (J:path.length+1=L) (U:c[i]?=some o) (H:Sim ν S a w) (W:ð E.clone o.op=true->nid<S.h.length/\lkB S.h nid=.dead)
 (e:jd E call fid path q c.toList i nid o S K=some r) {next:Act->World->Prop} {Q:Exit->Act->World->Prop}
 (V:∀(ν':Nat->Value) (w':World) (u:Value) (v:AV) (s:St),VR ν' s.h w' v u->HR ν' s.h w'->Ev S.h.length ν S.h w ν' s.h w'->S.h.length<=s.h.length->(∀j,j<S.h.length->j≠nid\/ð E.clone o.op=false->lkB S.h j=.dead->lkB s.h j=.dead)->s.t=S.t ->
  K {t:=é s.t o.dst v,h:=s.h}=some r->next (a.put o.dst u) w') :
 wpOpIn fen 0 E.P c Q i next a w:=by
 have A:ŋ E call fid (path++[i]) q S nid o (fun v S=>K {t:=é S.t o.dst v,h:=S.h})=some r ->
  o.wpIn fen 0 E.P a w next Q:=fun R=>GR z Z m B (by simpa using J) H W R V
 -- it is left out
 have skip:K {t:=é S.t o.dst .und,h:=S.h}=some r->next (a.put o.dst undef) w :=
  fun R=>V ν w undef .und S rfl H.heap (Ev.refl _ _ _ _) (bt _) (fun _ _ _ hd=>hd) rfl R
 have G:o∈c.toList:=by
  have:c.toList[i]?=some o:=by simpa using U
  exact bI this
 unfold wpOpIn;rw[U];simp only[jd] at e
 split at e
 ·rename_i k
  have x:Region.wanted o (yielded c a.tmps)=true:=by simp[Region.wanted,k]
  simp only[x,if_true];exact A e
 ·rename_i j T k;obtain⟨p,d,J,hd⟩:=BX Y G k;obtain⟨O,N⟩:=JS (tmps:=a.tmps) J hd
  have y:iL c.toList j=d:=by simp[iL,J,hd]
  rw[y] at e;have I:=H.tmps d
  split at e
  ·rename_i b hb;rw[hb] at I;have C:=O b I
   split at e
   ·rename_i l
    have x:Region.wanted o (yielded c a.tmps)=true:=by
     simp only[beq_iff_eq] at l;simp[Region.wanted,k,C,l]
    simp only[x,if_true];exact A e
   ·rename_i l
    have x:Region.wanted o (yielded c a.tmps)=false:=by
     simp only[beq_eq_false_iff_ne] at l;simpa[Region.wanted,k,C] using l
    simp only[x,bO,if_false];exact⟨fun _ _=>trivial,skip e⟩
  ·rename_i hb;rw[hb] at I
   have x:Region.wanted o (yielded c a.tmps)=false:=by simp[Region.wanted,k,N I]
   simp only[x,bO,if_false];exact⟨fun _ _=>trivial,skip e⟩
  ·cases e
def L2 {E : Env ρ} {call : AS Nat -> Bool -> Nat -> AS AV -> AS Blk -> (AV -> AS Blk -> AN ρ) -> AN ρ} {L : Nat} (p : JQ E.P L call) (N : ∀ (f : Nat) (fn : Func), E.P.funcs[f]? = some fn -> (fn.name == "runtime.NumGoroutine") = false)
 (k:vS E.P E.clone) (q:ř E) {fid:Nat} {path:AS Nat} {l:Bool} {c:Array Oper} (J:ky c.toList c.toList=true)
 {S:St} {a:Act} {nid i:Nat} {o:Oper} {os:AS Oper} {K:St->AN ρ} {r:ρ} (A:path.length+1=L) (B:c[i]?=some o) (H:Sim ν S a w) (y:Qj (œ E.clone (o::os)) nid S.h)
 (e:Kc E call fid path l c.toList (o::os) i nid S K=some r) {next:Act->World->Prop} {Q:Exit->Act->World->Prop}
 (G:∀(ν':Nat->Value) (w':World) (u:Value) (v:AV) (d:St),VR ν' d.h w' v u->HR ν' d.h w'->Ev S.h.length ν S.h w ν' d.h w'->S.h.length<=d.h.length->Qj (œ E.clone os) (bif ð E.clone o.op then nid+1 else nid) d.h->(∀j,j<S.h.length->j<nid->lkB S.h j=.dead->lkB d.h j=.dead)->d.t=S.t ->
  Kc E call fid path l c.toList os (i+1) (bif ð E.clone o.op then nid+1 else nid) {t:=é d.t o.dst v,h:=d.h} K=some r->next (a.put o.dst u) w') :
 wpOpIn fen 0 E.P c Q i next a w:=by
 have x:ð E.clone o.op=true->nid<S.h.length/\lkB S.h nid=.dead:=fun b=>y nid (bt _) (by rw[gM,b]; simp)
 have m:Qj (œ E.clone os) (bif ð E.clone o.op then nid+1 else nid) S.h:=fun j s h2=>by
  cases b:ð E.clone o.op with
  |true=>rw[b] at s h2; exact y j (by simp at s; omega) (by rw[gM,b]; simp at h2 ⊢; omega)
  |false=>rw[b] at s h2; exact y j (by simpa using s) (by rw[gM,b]; simpa using h2)
 rw[L3] at e;refine xI p N k q J A B H x e fun ν' w' u v d g1 Z Y W z V U=>G ν' w' u v d g1 Z Y W (fun j h2 T=>?_) (fun j I C hd=>z j I (.inl (by omega)) hd) V U;obtain⟨R,O⟩:=m j h2 T;refine⟨by omega,z j R ?_ O⟩
 cases b:ð E.clone o.op with
 |true=>left; rw[b] at h2; simp at h2; omega
 |false=>exact .inr rfl
end
end Go.Am
end

noncomputable section
namespace Go.Am
variable [Globs] [É]
section
variable {ρ:Type} {ν ν':Nat->Value} {h h':AS Blk} {w w':World} {P:Program}
def Dd (m:Nat) (h h':AS Blk):Prop:=∀j,j<m->lkB h j=.dead->lkB h' j=.dead
def Dd.refl (m:Nat) (h:AS Blk):Dd m h h:=fun _ _ hd=>hd
def Dd.trans {m c:Nat} {h h' b:AS Blk} (f:Dd m h h') (h2:Dd c h' b) (e:m<=c):Dd m h b:=fun j d hd=>h2 j (bH d e) (f j d hd)
def Gv (m:Nat) (ν:Nat->Value) (h:AS Blk) (w:World) (K:Exit->St->AN ρ) (r:ρ) (e:Exit) (c:Act) (w':World):Prop :=
 ∃ν' b,Sim ν' b c w'/\Ev m ν h w ν' b.h w'/\m<=b.h.length/\Dd m h b.h/\K e b=some r
def Gv.trans {m i:Nat} {K:Exit->St->AN ρ} {r:ρ} {e:Exit} {j:Act} {b:Nat->Value} {c:AS Blk} {d:World} (ev:Ev m ν h w b c d) (hd:Dd m h c) (f:m<=i) (ha:Gv i b c d K r e j w'):Gv m ν h w K r e j w':=by
 obtain⟨ν',q,p,h2,o,l,k⟩:=ha;exact⟨ν',q,p,ev.trans h2 f,bG f o,hd.trans l f,k⟩
def Ou (E:Env ρ) (call:AS Nat->Bool->Nat->AS AV->AS Blk->(AV->AS Blk->AN ρ)->AN ρ):Prop :=
 (∀path c g b h K,call path c g b h K=none) \/
 ((∀ f p, E.pure f = some p -> ∀ path c b h K, call path c f b h K = CC (c && !E.fz f) p h b K) /\
  (∀f,E.pure f=none->E.sort f=true->∀path c b h K,call path c f b h K=match b with|[x]=>Cs h x K|_=>none) /\
  (∀f,E.pure f=none->E.sort f=false->E.compact f=true->∀path c b h K,call path c f b h K=match b with|[x]=>iR h x K|_=>none))
def NormOk (m:Nat) (N:St->AN St):Prop:=∀(S b:St) (ν:Nat->Value) (a:Act) (w:World),N S=some b->Sim ν S a w->m<=S.h.length->∃ν',Sim ν' b a w/\Ev m ν S.h w ν' b.h w/\m<=b.h.length/\Dd m S.h b.h
def Gn (E:Env ρ):Prop:=∀path fid rid m J,E.joins path fid rid m=some J->∃N,NormOk m N/\∀body rest,J body rest=body (fun S=>match N S with|some b=>rest b|none=>none)
def gw {E:Env ρ} (h:E.joins=fun _ _ _ _=>none):Gn E:=by
 intro path fid rid m J e;rw[h] at e;cases e
structure ψ (E:Env ρ) (L:Nat) (call:AS Nat->Bool->Nat->AS AV->AS Blk->(AV->AS Blk->AN ρ)->AN ρ):Prop where
 pureEq:Ou E call
 call:JQ E.P L call
 plain : ∀ (f : Nat) (fn : Func), E.P.funcs[f]? = some fn -> (fn.name == "runtime.NumGoroutine") = false
 clone:vS E.P E.clone
 joins:Gn E
 yld:ř E
def EL {E:Env ρ} {call:AS Nat->Bool->Nat->AS AV->AS Blk->(AV->AS Blk->AN ρ)->AN ρ} {L:Nat} (l:ψ E L call) {fid:Nat} {path:AS Nat} {p:Bool} {b:Array Oper} (B:path.length+1=L) (G:ky b.toList b.toList=true)
 {K:St->AN ρ} {r:ρ} {Q:Exit->Act->World->Prop} {m:Nat}:∀(os:AS Oper) (i nid:Nat) (S:St) (a:Act) (ν:Nat->Value) (w:World),(∀k,os[k]?=b[i+k]?)->Sim ν S a w->Qj (œ E.clone os) nid S.h->m<=nid->m<=S.h.length ->
  Kc E call fid path p b.toList os i nid S K=some r ->
  (∀ν' c J w',Sim ν' c J w'->Ev m ν S.h w ν' c.h w'->m<=c.h.length->Dd m S.h c.h->K c=some r->Q .normal J w') ->
  wpOpsIn fen 0 E.P b Q (List.range' i os.length) a w
 |[],i,nid,S,a,ν,w,_,H,_,_,x,e,y=>y ν S a w H (Ev.refl _ _ _ _) x (Dd.refl _ _) e
 |o::os,i,nid,S,a,ν,w,C,H,N,O,x,e,y=>by
  rw[bJ,List.range'_succ,wpOpsIn_cons]
  have s:b[i]?=some o:=by have:=C 0; simpa using this.symm
  refine L2 l.call l.plain l.clone l.yld G B s H N e fun ν' w' u v c Y h2 I h4 W T V U=>?_;have f:=H.put I h2 o.dst Y
  refine EL l B G os (i+1) _ {t:=é c.t o.dst v,h:=c.h} _ ν' w' (fun k=>by have:=C (k+1); rw[show i+1+k=i+(k+1) by omega]; simpa using this) (by rw[V]; exact f) W (by cases ð E.clone o.op<;>simp<;>omega) (by simp; omega) U
   fun d A z q g1 g2 g3 g4 Z=>y d A z q g1 ((I.mono x).trans g2 (bt _)) g3 (fun j R hd=>g4 j R (T j (by omega) (by omega) hd)) Z
def GW {E:Env ρ} {call:AS Nat->Bool->Nat->AS AV->AS Blk->(AV->AS Blk->AN ρ)->AN ρ} {L:Nat} (p:ψ E L call) {fid rid:Nat} {path:AS Nat} {c:Array Oper} {S:St} {a:Act} {K:Exit->St->AN ρ} {r:ρ} {m:Nat} (i:path.length+1=L)
 (e:xP E call fid path false c.toList S (K .normal)=some r) (H:Sim ν S a w) (l:m<=S.h.length):(Code.region rid c false).wpIn fen 0 E.P (Gv m ν S.h w K r) a w:=by
 unfold xP at e
 split at e<;>try (cases e; done)
 rename_i f;simp only[Bool.false_and,Bool.false_or,df] at f;apply wpIn_region;have b:=fun id=>De S.h (œ E.clone c.toList) id;have A:Sim ν {t:=S.t,h:=S.h++List.replicate (œ E.clone c.toList) .dead} a w:=H.same b rfl rfl rfl rfl;have d:Ev m ν S.h w ν (S.h++List.replicate (œ E.clone c.toList) .dead) w:=Ev.same b rfl rfl rfl rfl m
 have:=EL (m:=m) (Q:=Gv m ν S.h w K r) p i f c.toList 0 S.h.length _ a ν w (fun k=>by simp) A (fun j q h2=>⟨by simp; omega,by simp only[b]; exact wq _ _ q⟩) l (by simp; omega) e
  (fun ν' z B w' y x v u s=>⟨ν',z,y,d.trans x (bt _),v,fun j o hd=>u j o (by simp only[b]; exact hd),s⟩)
 rw[List.range_eq_range'];simpa using this
def jD (E:Env ρ) (L:Nat) (call:AS Nat->Bool->Nat->AS AV->AS Blk->(AV->AS Blk->AN ρ)->AN ρ):Prop :=
 ∀(fid rid:Nat) (path:AS Nat) (b:Array Oper) (S:St) (a:Act) (K:Exit->St->AN ρ) (r:ρ) (m:Nat) (ν:Nat->Value) (w:World),path.length+1=L ->
  xP E call fid path true b.toList S (K .normal)=some r->Sim ν S a w->m<=S.h.length->(Code.region rid b true).wpIn fen 0 E.P (Gv m ν S.h w K r) a w
def drawn:Code->Bool
 |.region _ _ d=>d
 |.seq a b=>drawn a||drawn b
 |.cond _ a b=>drawn a||drawn b
 |.block _ b=>drawn b
 |.scope b=>drawn b
 |_=>false
def noGoto (Q:Exit->Act->World->Prop):Exit->Act->World->Prop
 |.goto _,_,_=>False
 |e,a,w=>Q e a w
section
variable {F:Fence} {n:Nat} {P:Program} {Q:Exit->Act->World->Prop} {a:Act} {w:World}
def gb {b:Frame} {k:AS Item} {cs:AS Frame} {c:Code}:step P (lone (b.atR a (.code (.scope c)::k)) cs w)=.next (lone (b.atR a (.code c::.inScope c::k)) cs w) :=
 step_lone_go (by simp[stepG,stepG.exec,Frame.atR])
def Cq {b:Frame} {k:AS Item} {cs:AS Frame} {c:Code}:step P (lone (b.atR a (.inScope c::k)) cs w)=.next (lone (b.atR a k) cs w) :=
 step_lone_go (by simp[stepG,stepG.exec,Frame.atR])
def JT {c:Code} (h:c.wpIn F n P (noGoto Q) a w):(Code.scope c).wpIn F n P Q a w:=by
 intro b k cs m hb p;have h0:(lone (b.atR a (.code (.scope c)::k)) cs w).fenced P F:=fenced_calm hb p rfl;obtain⟨e,i,f,j,d⟩:=h b (.inScope c::k) cs m hb p
 cases e with
 |normal=>exact⟨.normal,i,f,j,.head h0 gb (StepsIn.trans d (.one (fenced_calm hb p rfl) Cq))⟩
 |exit id =>
  have r:exitTo id (.inScope c::k)=exitTo id k:=by simp[exitTo]
  exact⟨.exit id,i,f,j,fun s q=>.head h0 gb (d.1 s (by rw[r]; exact q)),
   fun o q=>let ⟨k₁,t,h2⟩:=d.2 o (by rw[r]; exact q); ⟨k₁,t,.head h0 gb h2⟩⟩
 |goto l=>exact j.elim
 |ret=>exact⟨_,i,f,j,.of_steps (.one h0 gb) d⟩
 |panic ch=>exact⟨_,i,f,j,.of_steps (.one h0 gb) d⟩
 |outgrown=>exact⟨_,i,f,j,.of_steps (.one h0 gb) d⟩
end
def fq (E:Env ρ) (path:AS Nat) (fid bid:Nat):LI->Prop
 |.lp b=>∀(m:Nat) (S:St) (K:Exit->St->AN ρ) (r:ρ) (ν:Nat->Value) (a:Act) (w:World),E.loops path fid bid m S K=some r->Sim ν S a w->m<=S.h.length->(Code.loop b).wpIn fen 0 E.P (Gv m ν S.h w K r) a w
 |.rf g ps x y=>∀(m:Nat) (S:St) (K:Exit->St->AN ρ) (r:ρ) (ν:Nat->Value) (a:Act) (w:World),E.ranges path fid bid m (ev S.t g) S K=some r->Sim ν S a w->m<=S.h.length->(Code.rangeFunc g ps x y).wpIn fen 0 E.P (Gv m ν S.h w K r) a w
def lX {E:Env ρ} {call:AS Nat->Bool->Nat->AS AV->AS Blk->(AV->AS Blk->AN ρ)->AN ρ} {L:Nat} (U:ψ E L call) {fid:Nat} {path:AS Nat} (T:path.length+2=L) {m:Nat} {r:ρ}:∀(c:Code) (bid:Nat) (S:St) (K:Exit->St->AN ρ) (ν:Nat->Value) (a:Act) (w:World),
 (drawn c=true->jD E L call)->(∀x∈Ò bid c,fq E path fid x.1 x.2)->goC E call fid path m bid c S K=some r->Sim ν S a w->m<=S.h.length->c.wpIn fen 0 E.P (Gv m ν S.h w K r) a w:=by
 intro c
 induction c with
 |skip=>exact fun bid S K ν a w _ _ e H p=>wpIn_skip ⟨ν,S,H,Ev.refl _ _ _ _,p,Dd.refl _ _,e⟩
 |label l=>exact fun bid S K ν a w _ _ e H p=>wpIn_label ⟨ν,S,H,Ev.refl _ _ _ _,p,Dd.refl _ _,e⟩
 |exit id=>exact fun bid S K ν a w _ _ e H p=>wpIn_exit ⟨ν,S,H,Ev.refl _ _ _ _,p,Dd.refl _ _,e⟩
 |ret=>exact fun bid S K ν a w _ _ e H p=>wpIn_ret ⟨ν,S,H,Ev.refl _ _ _ _,p,Dd.refl _ _,e⟩
 |region rid ops draw =>
  intro bid S K ν a w s _ e H p;simp only[goC,Ng] at e
  cases draw with
  |false=>exact GW U (by simpa using T) e H p
  |true=>exact s rfl fid rid _ ops S a K r m ν w (by simpa using T) e H p
 |seq x y ihx ihy =>
  intro bid S K ν a w s q e H p;simp only[goC] at e
  cases u:E.joins path fid (za y) m with
  |none =>
   rw[u] at e;simp only at e;refine wpIn_seq (wpIn_mono (ihx bid S _ ν a w (fun h=>s (by simp[drawn,h])) (fun z t=>q z (b8 _ t)) e H p) fun v A w' ha=>?_);obtain⟨ν',o,k,h2,i,f,d⟩:=ha
   cases v with
   |normal =>
    exact wpIn_mono (ihy bid o K ν' A w' (fun h=>s (by simp[drawn,h])) (fun z t=>q z (bY _ t)) d k i) fun O R I ha=>ha.trans h2 f (bt _)
   |exit id=>exact⟨ν',o,k,h2,i,f,d⟩
   |goto l=>exact⟨ν',o,k,h2,i,f,d⟩
   |ret=>exact⟨ν',o,k,h2,i,f,d⟩
   |panic ch=>exact⟨ν',o,k,h2,i,f,d⟩
   |outgrown=>exact⟨ν',o,k,h2,i,f,d⟩
  |some J =>
   rw[u] at e;simp only at e;obtain⟨N,W,Y⟩:=U.joins _ _ _ _ _ u;rw[Y] at e;refine wpIn_seq (wpIn_mono (ihx bid S _ ν a w (fun h=>s (by simp[drawn,h])) (fun z t=>q z (b8 _ t)) e H p) fun v A w' ha=>?_);obtain⟨ν',o,k,h2,i,f,d⟩:=ha
   cases v with
   |normal =>
    simp only at d
    split at d<;>try (cases d; done)
    rename_i G V;obtain⟨B,g1,g2,g3,Z⟩:=W o G ν' A w' V k i;exact wpIn_mono (ihy bid G K B A w' (fun h=>s (by simp[drawn,h])) (fun z t=>q z (bY _ t)) d g1 g3) fun O R I ha=>ha.trans (h2.trans g2 (bt _)) (f.trans Z (bt _)) (bt _)
   |exit id=>exact⟨ν',o,k,h2,i,f,d⟩
   |goto l=>exact⟨ν',o,k,h2,i,f,d⟩
   |ret=>exact⟨ν',o,k,h2,i,f,d⟩
   |panic ch=>exact⟨ν',o,k,h2,i,f,d⟩
   |outgrown=>exact⟨ν',o,k,h2,i,f,d⟩
 |cond c x y ihx ihy =>
  intro bid S K ν a w s q e H p;simp only[goC] at e
  split at e<;>try (cases e; done)
  rename_i b hb;have C:=ù H c;rw[hb] at C;have C:a.eval c=.bool b:=C
  split at e
  ·exact wpIn_cond_true C (ihx bid S K ν a w (fun h=>s (by simp[drawn,h])) (fun z t=>q z (b8 _ t)) e H p)
  ·exact wpIn_cond_false C (ihy bid S K ν a w (fun h=>s (by simp[drawn,h])) (fun z t=>q z (bY _ t)) e H p)
 |block id b ih =>
  intro bid S K ν a w s q e H p;simp only[goC] at e;refine wpIn_block (wpIn_mono (ih id S _ ν a w (fun h=>s (by simpa[drawn] using h)) q e H p) fun v A w' ha=>?_);obtain⟨ν',o,k,h2,i,f,d⟩:=ha
  cases v with
  |exit j =>
   simp only[Exit.inBlock];simp only at d
   split at d
   ·rename_i u;rw[if_pos (eq_of_beq u)];exact⟨ν',o,k,h2,i,f,d⟩
   ·rename_i u
    have:¬j=id:=by simpa using u
    rw[if_neg this];exact⟨ν',o,k,h2,i,f,d⟩
  |normal=>exact⟨ν',o,k,h2,i,f,d⟩
  |goto l=>exact⟨ν',o,k,h2,i,f,d⟩
  |ret=>exact⟨ν',o,k,h2,i,f,d⟩
  |panic ch=>exact⟨ν',o,k,h2,i,f,d⟩
  |outgrown=>exact⟨ν',o,k,h2,i,f,d⟩
 |loop b ih =>
  intro bid S K ν a w s q e H p;simp only[goC] at e;exact q (bid,.lp b) (by simp[Ò]) m S K r ν a w e H p
 |rangeFunc g ps x y ihx ihy =>
  intro bid S K ν a w s q e H p;simp only[goC] at e;exact q (bid,.rf g ps x y) (by simp[Ò]) m S K r ν a w e H p
 |scope b ih =>
  intro bid S K ν a w s q e H p;simp only[goC] at e;refine JT (wpIn_mono (ih bid S _ ν a w (fun h=>s (by simpa[drawn] using h)) q e H p) fun v A w' ha=>?_);obtain⟨ν',o,k,h2,i,f,d⟩:=ha
  cases v with
  |goto l=>cases d
  |normal=>exact⟨ν',o,k,h2,i,f,d⟩
  |exit id=>exact⟨ν',o,k,h2,i,f,d⟩
  |ret=>exact⟨ν',o,k,h2,i,f,d⟩
  |panic ch=>exact⟨ν',o,k,h2,i,f,d⟩
  |outgrown=>exact⟨ν',o,k,h2,i,f,d⟩
 |_=>intro bid S K ν a w s q e H p; cases e
def jv {E:Env ρ} {call:AS Nat->Bool->Nat->AS AV->AS Blk->(AV->AS Blk->AN ρ)->AN ρ} {L:Nat} (i:ψ E L call) (j:jD E L call) {fid:Nat} {path:AS Nat} (b:path.length+2=L) {m:Nat} {r:ρ} (c:Code) (bid:Nat) (S:St) (K:Exit->St->AN ρ) (ν:Nat->Value) (a:Act) (w:World)
 (f:∀x∈Ò bid c,fq E path fid x.1 x.2) (e:goC E call fid path m bid c S K=some r) (H:Sim ν S a w) (d:m<=S.h.length):c.wpIn fen 0 E.P (Gv m ν S.h w K r) a w :=
 lX i b c bid S K ν a w (fun _=>j) f e H d
end
end Go.Am
end

noncomputable section
namespace Go.Am
variable [Globs] [É]
section
variable {ρ:Type} {ν ν':Nat->Value} {h h':AS Blk} {w w':World} {P:Program}
def Ot:Prop:=∀(T:Tpl) (pin:Nat) (cs vs:AS Ty) (S:St) (p:Val (tyL cs)) (v:Val (tyL vs)) (ν:Nat->Value) (a:Act) (w:World),jl T pin cs vs S=some (p,v)->Sim ν S a w ->
 ∃ν',Sim ν' (Ý T cs vs p v) a w/\Ev pin ν S.h w ν' (Ý T cs vs p v).h w/\pin<=(Ý T cs vs p v).h.length/\Dd pin S.h (Ý T cs vs p v).h
def B4:∀(l:AS (Exit×Tpl×AS Ty)) (e:Exit) (i j:Nat),PK l e i=some j->∃x,i<=j/\l[j-i]?=some x/\xh x.1 e=true
 |[],_,_,_,h=>by cases h
 |x::l,e,i,j,h=>by
  unfold PK at h
  split at h
  ·rename_i b;cases h;exact⟨x,bt _,by simp,b⟩
  ·obtain⟨y,d,h2,c⟩:=B4 l e (i+1) j h;refine⟨y,by omega,?_,c⟩;rw[show j-i=(j-(i+1))+1 by omega];simpa using h2
def GQ {a b:Exit} (h:xh a b=true):a=b:=by
 unfold xh at h
 split at h
 ·rw[eq_of_beq h]
 ·rfl
 ·cases h
def I2 (hM:Ot) {E:Env ρ} {call:AS Nat->Bool->Nat->AS AV->AS Blk->(AV->AS Blk->AN ρ)->AN ρ} {N:Nat} (hE:ψ E N call) (hD:jD E N call) {fid bid:Nat} {path:AS Nat} (J:path.length+2=N) {b:Code}
 (hin:∀x∈Ò bid b,fq E path fid x.1 x.2) (L:Ë)
 (bF:Val (tyL L.cs)->Val (tyL L.vs)->(Val (tyL L.vs)->AN ρ)->((i:Nat)->Val (tyL (L.zs i))->AN ρ)->AN ρ)
 (law:∀p v C kx,goC E call fid path L.pin bid b (Ý L.head L.cs L.vs p v) (J0 L C kx)=bF p v (C p) (fun i=>kx i p)) {m:Nat} {S:St} {K:Exit->St->AN ρ} {r:ρ} {ν:Nat->Value} {a:Act} {w:World} (e:GS L bF m S K=some r) (H:Sim ν S a w) (hm:m<=S.h.length):(Code.loop b).wpIn fen 0 E.P (Gv m ν S.h w K r) a w:=by
 unfold GS at e
 split at e<;>try (cases e; done)
 rename_i c;have c:m<=L.pin:=ca c
 split at e<;>try (cases e; done)
 rename_i p v A;obtain⟨n,hn⟩:=Kz e;obtain⟨d,H1,U,R,W⟩:=hM _ _ _ _ _ _ _ ν a w A H;apply wpIn_loop_rounds n
 have Z:∀(n:Nat) (p:Val (tyL L.cs)) (v:Val (tyL L.vs)) (d:Nat->Value) (q:Act) (f:World),OE (fun v C=>bF p v C fun i z=>K (L.xk i) (Ý (L.tpl i) L.cs (L.zs i) p z)) n v=some r ->
  Sim d (Ý L.head L.cs L.vs p v) q f->Ev m ν S.h w d (Ý L.head L.cs L.vs p v).h f->L.pin<=(Ý L.head L.cs L.vs p v).h.length->Dd m S.h (Ý L.head L.cs L.vs p v).h ->
  Code.roundsIn fen 0 E.P b (Gv m ν S.h w K r) n q f:=by
  intro n
  induction n with
  |zero=>intro p v d q f e; cases e
  |succ n ih =>
   intro p v d q f e H1 U R W;rw[roundsIn_succ];have hl:=law p v (fun p v=>OE (fun v C=>bF p v C fun i z=>K (L.xk i) (Ý (L.tpl i) L.cs (L.zs i) p z)) n v) (fun i p z=>K (L.xk i) (Ý (L.tpl i) L.cs (L.zs i) p z))
   have e':goC E call fid path L.pin bid b (Ý L.head L.cs L.vs p v) (J0 L (fun p v=>OE (fun v C=>bF p v C fun i z=>K (L.xk i) (Ý (L.tpl i) L.cs (L.zs i) p z)) n v) (fun i p z=>K (L.xk i) (Ý (L.tpl i) L.cs (L.zs i) p z)))=some r:=by
    rw[hl]; exact e
   refine wpIn_mono (jv hE hD J b bid _ _ d q f hin e' H1 R) fun x u o ha=>?_;obtain⟨t,B,H2,ev2,hp2,dd2,k⟩:=ha;have G:Ev m ν S.h w t B.h o:=U.trans ev2 c;have I:Dd m S.h B.h:=W.trans dd2 c
   have out:∀x,x≠.normal->J0 L (fun p v=>OE (fun v C=>bF p v C fun i z=>K (L.xk i) (Ý (L.tpl i) L.cs (L.zs i) p z)) n v) (fun i p z=>K (L.xk i) (Ý (L.tpl i) L.cs (L.zs i) p z)) x B=some r->Gv m ν S.h w K r x u o:=by
    intro x hx k;unfold J0 at k
    split at k
    ·exact absurd rfl hx
    ·split at k<;>try (cases k; done)
     rename_i i hi
     split at k<;>try (cases k; done)
     rename_i Y z A;obtain⟨y,_,h1,h2⟩:=B4 _ _ _ _ hi
     have hxk:L.xk i=x:=by
      have:L.exits[i]?=some y:=by simpa using h1
      unfold Ë.xk;rw[this];exact GQ h2
     obtain⟨s,H3,T,O,V⟩:=hM _ _ _ _ _ _ _ t u o A H2;have k:K (L.xk i) (Ý (L.tpl i) L.cs (L.zs i) Y z)=some r:=k;rw[hxk] at k;exact⟨s,_,H3,G.trans T c,bG c O,I.trans V c,k⟩
   cases x with
   |normal =>
    simp only[J0] at k
    split at k<;>try (cases k; done)
    rename_i Y v' A;obtain⟨s,H3,T,O,V⟩:=hM _ _ _ _ _ _ _ t u o A H2;exact ih Y v' s u o k H3 (G.trans T c) O (I.trans V c)
   |exit id=>exact out _ (by simp) k
   |ret=>exact out _ (by simp) k
   |goto l=>exact out _ (by simp) k
   |panic ch=>exact out _ (by simp) k
   |outgrown=>exact out _ (by simp) k
 exact Z n p v d a w hn H1 (U.mono c) R (fun j hj hd=>W j (by omega) hd)
end
end Go.Am
end

noncomputable section
namespace Go.Am
variable [Globs] [É]
section
variable {ν:Nat->Value} {h h':AS Blk} {w:World}
def F6 {t:Ty} {d:DV} {x:Val t} (e:zM t d=some x):d=⟨t,x⟩:=by
 unfold zM at e
 split at e<;>try (cases e; done)
 rename_i b _;obtain⟨ty,val⟩:=d;simp only at b;subst b;cases e;rfl
def JW (u:Ty) (l:AS Ty) (t:Ty) (d:DV) (b:AS DV):JX (u::l) t (d::b)=(match zM t d with
 |some x=>match JX l u b with
  |some y=>some ((x,y):Val t×Val (tys u l))
  |none=>none
 |none=>none):=rfl
def Ma (t:Ty) (x:Val t):Kg t [] x=[⟨t,x⟩]:=rfl
def Ke (t u:Ty) (l:AS Ty) (x:Val t) (y:Val (tys u l)):Kg t (u::l) ((x,y):Val t×Val (tys u l))=⟨t,x⟩::Kg u l y:=rfl
def OQ (l:AS Ty):∀(t:Ty) (b:AS DV) (x:Val (tys t l)),JX l t b=some x->Kg t l x=b:=by
 induction l with
 |nil =>
  intro t b x e
  match b,e with
  |[],e=>exact absurd (show(none:AN (Val t))=some x from e) (fun h=>by cases h)
  |[d],e =>
   have e:zM t d=some x:=e;rw[F6 e]; exact Ma t x
  |_::_::_,e=>exact absurd (show(none:AN (Val t))=some x from e) (fun h=>by cases h)
 |cons u l i =>
  intro t b x e
  match b,e with
  |[],e=>exact absurd (show(none:AN (Val t×Val (tys u l)))=some x from e) (fun h=>by cases h)
  |d::b,e =>
   rw[JW] at e
   cases c:zM t d with
   |none=>rw[c] at e; exact absurd (show(none:AN (Val t×Val (tys u l)))=some x from e) (fun h=>by cases h)
   |some y =>
    cases f:JX l u b with
    |none=>rw[c,f] at e; exact absurd (show(none:AN (Val t×Val (tys u l)))=some x from e) (fun h=>by cases h)
    |some z =>
     rw[c,f] at e;have e:((y,z):Val t×Val (tys u l))=x:=Option.some.inj e;rw[<-e,F6 c,<-i u b z f];exact Ke t u l y z
def Ig (l:AS Ty) (b:AS DV) (x:Val (tyL l)) (e:Q2 l b=some x):G8 l x=b:=by
 cases l with
 |nil=>cases b with
  |nil=>rfl
  |cons=>cases e
 |cons t l=>exact OQ l t b x e
def νb (B:AS Bd) (ν:Nat->Value) (i:Nat):Value :=
 match ś B i with
 |some (.at_ id)=>ν id
 |some .new=>.slice none 0 0
 |some .newd=>.agg [Value.slice none 0 0].toArray
 |_=>undef
structure Ext (M M':Mt):Prop where
 bd:∀i id,ś M.bd i=some (.at_ id)->ś M'.bd i=some (.at_ id)
 new:∀i,ś M.bd i=some .new->ś M'.bd i=some .new
 newd:∀i,ś M.bd i=some .newd->ś M'.bd i=some .newd
 cons:M.cons <+: M'.cons
 vars:M.vars <+: M'.vars
 freed:∀i∈M.freed,i∈M'.freed
 len:M'.bd.length=M.bd.length
def Ext.refl (M:Mt):Ext M M:=⟨fun _ _ h=>h,fun _ h=>h,fun _ h=>h,ce,ce,fun _ h=>h,rfl⟩
def Ext.trans {M c b:Mt} (h:Ext M c) (k:Ext c b):Ext M b :=
 ⟨fun i id q=>k.bd i id (h.bd i id q),fun i q=>k.new i (h.new i q),fun i q=>k.newd i (h.newd i q),h.cons.trans k.cons,h.vars.trans k.vars,fun i q=>k.freed i (h.freed i q),k.len.trans h.len⟩
def ī:∀(l:AS Bd) (d:Nat) (b:Bd) (i:Nat),ś (wD l d b) i=if i=d/\d<l.length then some b else ś l i
 |[],d,v,i=>by simp[wD,ś]
 |x::xs,0,v,0=>by simp[wD,ś]
 |x::xs,0,v,i+1=>by simp[wD,ś]
 |x::xs,d+1,v,0=>by simp[wD,ś]
 |x::xs,d+1,v,i+1=>by simp[wD,ś,ī xs d v i]
def ku:∀(l:AS Bd) (d:Nat) (b:Bd),(wD l d b).length=l.length
 |[],_,_=>rfl
 |_::_,0,_=>rfl
 |_::xs,d+1,v=>by simp[wD,ku xs d v]
def mP:∀{l:AS Bd} {i:Nat} {b:Bd},ś l i=some b->i<l.length
 |[],_,_,h=>by cases h
 |_::_,0,_,_=>ff _
 |_::_,i+1,_,h=>Nat.succ_lt_succ (mP (by simpa[ś] using h))
def į {M d:Mt} {i id:Nat} (e:wB M i id=some d):Ext M d/\ś d.bd i=some (.at_ id)/\d.cons=M.cons/\d.vars=M.vars:=by
 unfold wB at e
 split at e<;>try (cases e; done)
 ·rename_i c;cases e;have k:=mP c;refine⟨⟨fun j f q=>?_,fun j q=>?_,fun j q=>?_,ce,ce,fun _ q=>q,ku _ _ _⟩,by simp[ī,k],rfl,rfl⟩
  ·simp only[ī]
   by_cases b:j=i
   ·subst b; rw[c] at q; cases q
   ·simp[b,q]
  ·simp only[ī]
   by_cases b:j=i
   ·subst b; rw[c] at q; cases q
   ·simp[b,q]
  ·simp only[ī]
   by_cases b:j=i
   ·subst b; rw[c] at q; cases q
   ·simp[b,q]
 ·rename_i f c
  split at e<;>try (cases e; done)
  rename_i hi;cases e;rw[eq_of_beq hi] at c;exact⟨Ext.refl _,c,rfl,rfl⟩
def wA {M c:Mt} {i:Nat} (e:HP M i=some c):Ext M c/\ś c.bd i=some .new/\c.cons=M.cons/\c.vars=M.vars:=by
 unfold HP at e
 split at e<;>try (cases e; done)
 rename_i d;cases e;have f:=mP d;refine⟨⟨fun j k q=>?_,fun j q=>?_,fun j q=>?_,ce,ce,fun _ q=>q,ku _ _ _⟩,by simp[ī,f],rfl,rfl⟩
 ·simp only[ī]
  by_cases b:j=i
  ·subst b; rw[d] at q; cases q
  ·simp[b,q]
 ·simp only[ī]
  by_cases b:j=i
  ·subst b; rw[d] at q; cases q
  ·simp[b,q]
 ·simp only[ī]
  by_cases b:j=i
  ·subst b; rw[d] at q; cases q
  ·simp[b,q]
def uu {M c:Mt} {i:Nat} (e:DJ M i=some c):Ext M c/\ś c.bd i=some .newd/\c.cons=M.cons/\c.vars=M.vars:=by
 unfold DJ at e
 split at e<;>try (cases e; done)
 rename_i d;cases e;have f:=mP d;refine⟨⟨fun j k q=>?_,fun j q=>?_,fun j q=>?_,ce,ce,fun _ q=>q,ku _ _ _⟩,by simp[ī,f],rfl,rfl⟩
 ·simp only[ī]
  by_cases b:j=i
  ·subst b; rw[d] at q; cases q
  ·simp[b,q]
 ·simp only[ī]
  by_cases b:j=i
  ·subst b; rw[d] at q; cases q
  ·simp[b,q]
 ·simp only[ī]
  by_cases b:j=i
  ·subst b; rw[d] at q; cases q
  ·simp[b,q]
def kin:Blk->Blk->Prop
 |.row t _ false xs,B=>B=.row t 0 false xs
 |.row t g true xs,B=>B=.row t g true xs
 |.map k v es,B=>B=.map k v es
 |.cells _,B=>∃c,B=.cells c
 |.dead,B=>B=.dead
 |.deep k _ xss,B=>B=.deep k 0 xss
 |.acc t xs,B=>B=.acc t xs
 |.fns _,B=>∃b,B=.fns b
structure Fin (ν:Nat->Value) (h:AS Blk) (w:World) (M:Mt) (h':AS Blk):Prop where
 at_:∀i id,ś M.bd i=some (.at_ id)->kin (lkB h id) (lkB h' i)
 new:∀i,ś M.bd i=some .new->∃t,lkB h' i=.row t 0 false []
 newd:∀i,ś M.bd i=some .newd->∃k,lkB h' i=.deep k 0 []
 out:∀i,(∀id,ś M.bd i≠some (.at_ id))->ś M.bd i≠some .new->ś M.bd i≠some .newd->lkB h' i=.dead
 freed:∀id∈M.freed,∀i,ś M.bd i≠some (.at_ id)
 inj:∀i j id,ś M.bd i=some (.at_ id)->ś M.bd j=some (.at_ id)->i=j
def Fin.live {M:Mt} (F:Fin ν h w M h') {b:Nat} (hb:jG (νb M.bd ν) h' b):∃i id,ś M.bd i=some (.at_ id)/\(lkB h id).live=true/\ć (ν id) b:=by
 obtain⟨i,d,e⟩:=hb
 cases c:ś M.bd i with
 |none=>rw[F.out i (by simp[c]) (by simp[c]) (by simp[c])] at d; cases d
 |some bd =>
  cases bd with
  |open_=>rw[F.out i (by simp[c]) (by simp[c]) (by simp[c])] at d; cases d
  |new=>simp only[νb,c] at e; cases e
  |newd =>
   simp only[νb,c] at e;obtain⟨u,k,hb⟩:=e;simp at k;subst k;cases hb
  |at_ id =>
   refine⟨i,id,c,?_,by simpa[νb,c] using e⟩;have j:=F.at_ i id c
   cases f:lkB h id with
   |dead=>rw[f] at j; rw[show lkB h' i=_ from j] at d; cases d
   |cells=>rfl
   |map=>rfl
   |deep=>rfl
   |acc=>rfl
   |fns=>rfl
   |row t g fz xs =>
    cases fz with
    |false=>rfl
    |true=>rw[f] at j; rw[show lkB h' i=_ from j] at d; cases d
def Fin.subL {M:Mt} (F:Fin ν h w M h') (b:Nat) (hb:jG (νb M.bd ν) h' b):jG ν h b:=by
 obtain⟨i,id,_,h2,c⟩:=F.live hb;exact⟨id,h2,c⟩
def Fin.sub {M:Mt} (F:Fin ν h w M h') (b:Nat) (hb:Av (νb M.bd ν) h' b):Av ν h b:=hb.imp_left (F.subL b)
def Jp (H:HR ν h w) {M:Mt} (F:Fin ν h w M h') {t:Ty} {v:AV} {u:Value} {x:Val t} (z:∀i∈B0 h v,i∈M.freed) (e:Ï t [ç h v]=some x) (y:VR ν h w v u) :
 VR (νb M.bd ν) h' w (KQ ⟨t,x⟩) u:=by
 have c:∀(q:v.isAgg=false) (p:v.isTup=false),CR w (Av (νb M.bd ν) h') t x [u]:=by
  intro q p;have m:=y.one q p;refine ü e ⟨nS H F.sub m fun id b A l hb=>?_,trivial⟩;rintro(hlive|s)
  rotate_left
  ·exact H.ghne id b l hb s
  obtain⟨i,o,h2,C,B⟩:=F.live hlive;have r:id=o:=H.inj id o b l C hb B;subst r;refine F.freed id (z id ?_) i h2;rcases A with⟨g,rfl⟩|⟨g,lo,n,rfl⟩|rfl
  ·obtain⟨_,t',g',fz,xs,j,_⟩:=m;rw[j] at l
   cases fz with
   |true=>cases l
   |false=>simp[B0,j]
  ·obtain⟨_,t',g',fz,xs,j,_⟩:=m;rw[j] at l
   cases fz with
   |true=>cases l
   |false=>simp[B0,j]
  ·simp[B0]
 have fin:(t≠.unit/\∀a b,t≠.pair a b)->v.isAgg=false/\v.isTup=false:=fun⟨m,h2⟩=>by
  constructor
  ·cases v<;>try rfl
   cases t<;>first|(exact absurd rfl m)|(exact absurd rfl (h2 _ _))|(simp[ç,Ï,ĵ] at e)
  ·cases v<;>try rfl
   cases t<;>first|(exact absurd rfl m)|(exact absurd rfl (h2 _ _))|(simp[ç,Ï,ĵ] at e)
 cases t with
 |unit=>trivial
 |pair a b=>trivial
 |bool=>obtain⟨f,d⟩:=fin ⟨by simp,by simp⟩; exact ww (c f d)
 |int k=>obtain⟨f,d⟩:=fin ⟨by simp,by simp⟩; exact ww (c f d)
 |str=>obtain⟨f,d⟩:=fin ⟨by simp,by simp⟩; exact ww (c f d)
 |slice t=>obtain⟨f,d⟩:=fin ⟨by simp,by simp⟩; exact ww (c f d)
 |map k v=>obtain⟨f,d⟩:=fin ⟨by simp,by simp⟩; exact ww (c f d)
 |ptr t=>obtain⟨f,d⟩:=fin ⟨by simp,by simp⟩; exact ww (c f d)
def ý {α:Type} {l C:AS α} {d:α} (h:(l++[d]) <+: C):C.drop l.length=d::C.drop (l.length+1):=by
 obtain⟨t,rfl⟩:=h;simp[bM]
def Ι {B:AS Bd} {i id:Nat} (h:ś B i=some (.at_ id)):νb B ν i=ν id:=by simp[νb,h]
def Lg {B:AS Bd} {i:Nat} (h:ś B i=some .new):νb B ν i=.slice none 0 0:=by simp[νb,h]
def H6 {B:AS Bd} {i:Nat} (h:ś B i=some .newd):νb B ν i=.agg [Value.slice none 0 0].toArray:=by simp[νb,h]
def Ł:∀(ps:AS (Nat×Nat)) (vs:AS AV) (us:AS Value) (M M1:Mt),lB h ps vs M=some M1->Ext M M1/\M1.cons=M.cons/\M1.vars=M.vars /\
 ∀d,Ext M1 d->Fin ν h w d h'->ä (VR0 ν h w) vs us->ä (VR0 (νb d.bd ν) h' w) (ps.map fun c=>.box c.1 c.2) us
 |[],[],us,M,M1,e=>by
  cases e;exact⟨Ext.refl _,rfl,rfl,fun d _ _ f=>by cases us with|nil=>trivial|cons=>exact f.elim⟩
 |[],_::_,_,_,_,e=>by cases e
 |_::_,[],_,_,_,e=>by cases e
 |(i,o)::ps,v::vs,us,M,M1,e=>by
  cases v<;>try (simp[lB] at e; done)
  rename_i id off;simp only[lB] at e
  split at e<;>try (cases e; done)
  rename_i t
  split at e<;>try (cases e; done)
  rename_i cs x
  split at e<;>try (cases e; done)
  rename_i q hb;obtain⟨z,E,C,s⟩:=į hb;obtain⟨p,B,r,_⟩:=Ł ps vs us q M1 e;refine⟨z.trans p,B.trans C,r.trans s,fun d m F f=>?_⟩
  cases us with
  |nil=>exact f.elim
  |cons u us =>
   refine⟨?_,(Ł ps vs us q M1 e).2.2.2 d m F f.2⟩;obtain⟨A,b,G,h2,y⟩:=f.1;have j:=m.bd i id (p.bd i id E);have k:=F.at_ i id j;rw[x] at k;obtain⟨l,k⟩:=k;exact⟨l,b,k,(Ι j).trans h2,by rw[eq_of_beq t]; exact y⟩
def iE:∀(ps:AS (ByteArray×Nat×AS (Nat×Nat))) (es:AS (ByteArray×AV)) (ms:AS MapEntry) (M M1:Mt),xn h ps es M=some M1->Ext M M1/\M1.cons=M.cons/\M1.vars=M.vars /\
 ∀b,Ext M1 b->Fin ν h w b h'->DW ν h w es ms->DW (νb b.bd ν) h' w (ps.map fun e=>(e.1,.fn (.func e.2.1) [] (e.2.2.map fun c=>.box c.1 c.2))) ms
 |[],[],ms,M,M1,e=>by
  cases e;exact⟨Ext.refl _,rfl,rfl,fun b _ _ d=>by cases ms with|nil=>trivial|cons=>exact d.elim⟩
 |[],_::_,_,_,_,e=>by cases e
 |_::_,[],_,_,_,e=>by cases e
 |p::ps,x::es,ms,M,M1,e=>by
  obtain⟨s,v⟩:=x;simp only[xn] at e
  split at e<;>try (cases e; done)
  rename_i f vs
  split at e<;>try (cases e; done)
  rename_i j;simp only[bu] at j;have z:=Ik.1 j.1;have A:=bD j.2;subst A
  split at e<;>try (cases e; done)
  rename_i i l;obtain⟨C,G,t,_⟩:=Ł (ν:=ν) (w:=w) (h':=h') p.2.2 vs [] M i l;obtain⟨q,E,r,_⟩:=iE ps es ms i M1 e;refine⟨C.trans q,E.trans G,r.trans t,fun b o F d=>?_⟩
  cases ms with
  |nil=>exact d.elim
  |cons m ms =>
   refine⟨?_,(iE ps es ms i M1 e).2.2.2 b o F d.2⟩;obtain⟨k,h2,fs,cs,B,y,u⟩:=d.1;have k:m.key=.string s:=k;have:=(Ł (ν:=ν) (w:=w) (h':=h') p.2.2 vs cs.toList M i l).2.2.2 b (q.trans o) F u;exact⟨by rw[k,<-z],rfl,fs,cs,B,by rw[y.nil_left]; trivial,this⟩
def rest (b M:Mt):It:=⟨b.cons.drop M.cons.length,b.vars.drop M.vars.length⟩
def kI:∀(ts:AS Ty) (vs:AS AV) (M M1:Mt),oe ts vs M=some M1->Ext M M1/\∀c,Ext M1 c->(pr ts (rest c M)).2=rest c M1 /\
 ∀us:AS Value,Fin ν h w c h'->ä (VR0 ν h w) vs us->ä (VR0 (νb c.bd ν) h' w) (pr ts (rest c M)).1 us
 |[],[],M,M1,e=>by
  cases e;exact⟨Ext.refl _,fun c _=>⟨rfl,fun us _ d=>by cases us with|nil=>trivial|cons=>exact d.elim⟩⟩
 |[],_::_,_,_,e=>by cases e
 |_::_,[],_,_,e=>by cases e
 |t::ts,v::vs,M,M1,e=>by
  cases v<;>try (simp[oe] at e; done)
  rename_i t' x o;simp only[oe] at e
  split at e<;>try (cases e; done)
  rename_i f
  split at e<;>try (cases e; done)
  rename_i B _;have f:=bD f;subst f;obtain⟨l,m⟩:=kI ts vs _ M1 e;have A:Ext M {M with cons:=M.cons++[⟨.ptr t',x⟩]}:=⟨fun _ _ q=>q,fun _ q=>q,fun _ q=>q,cp _ _,ce,fun _ q=>q,rfl⟩;refine⟨A.trans l,fun c k=>?_⟩;obtain⟨j,i⟩:=m c k;have hd:=ý (l.trans k).cons
  have p:rest c {M with cons:=M.cons++[⟨.ptr t',x⟩]}=⟨c.cons.drop (M.cons.length+1),c.vars.drop M.vars.length⟩:=by simp[rest]
  rw[p] at j i;simp only[rest,pr,hd];refine⟨j,fun us F d=>?_⟩
  cases us with
  |nil=>exact d.elim
  |cons u us =>
   refine⟨?_,i us F d.2⟩;obtain⟨b,o,ws,z,h2,y,s,r⟩:=d.1;exact⟨b,o,ws,z,fun h=>h2 (F.sub b h),y,CR.mono F.sub s,r⟩
def yh (H:HR ν h w) {p:Pat} {v:AV} {M M1:Mt} (e:Ķ h p v M=some M1):Ext M M1/\∀j u,Ext M1 j->Fin ν h w j h'->VR ν h w v u ->
 VR (νb j.bd ν) h' w (jI p ⟨j.cons.drop M.cons.length,j.vars.drop M.vars.length⟩).1 u /\
  (jI p ⟨j.cons.drop M.cons.length,j.vars.drop M.vars.length⟩).2=⟨j.cons.drop M1.cons.length,j.vars.drop M1.vars.length⟩:=by
 cases p with
 |any=>cases e; exact⟨Ext.refl _,fun j u _ _ _=>⟨trivial,rfl⟩⟩
 |con t =>
  simp only[Ķ] at e
  split at e<;>try (cases e; done)
  rename_i x N;cases e;refine⟨⟨fun _ _ q=>q,fun _ q=>q,fun _ q=>q,cp _ _,ce,fun _ q=>bY _ q,rfl⟩,fun j u l F c=>?_⟩;have hd:=ý l.cons;simp only[jI,hd];exact⟨Jp H F (fun i hi=>l.freed i (b8 _ hi)) N c,by simp⟩
 |var t =>
  simp only[Ķ] at e
  split at e<;>try (cases e; done)
  rename_i x N;cases e;refine⟨⟨fun _ _ q=>q,fun _ q=>q,fun _ q=>q,ce,cp _ _,fun _ q=>bY _ q,rfl⟩,fun j u l F c=>?_⟩;have hd:=ý l.vars;simp only[jI,hd];exact⟨Jp H F (fun i hi=>l.freed i (b8 _ hi)) N c,by simp⟩
 |own i =>
  simp only[Ķ] at e
  split at e<;>try (cases e; done)
  ·rename_i id g
   split at e<;>try (cases e; done)
   rename_i t g' xs B
   split at e<;>try (cases e; done)
   rename_i O;obtain⟨o,z,y,r⟩:=į e;refine⟨o,fun j u l F c=>⟨?_,by simp only[jI,y,r]⟩⟩;have d:=l.bd i id z;have m:=F.at_ i id d;rw[B] at m;obtain⟨E,t2,g2,fz2,Y,s,_,C⟩:=c;rw[B] at s; cases s;exact⟨E,t,0,false,xs,m,bt _,fun _=>(C (eq_of_beq O)).trans (Ι d).symm⟩
  ·obtain⟨o,z,y,r⟩:=wA e;refine⟨o,fun j u l F c=>⟨?_,by simp only[jI,y,r]⟩⟩;have A:=l.new i z;obtain⟨t,m⟩:=F.new i A;have G:u=.slice none 0 0:=c;exact⟨by rw[G]; rfl,t,0,false,[],m,bt _,fun _=>G.trans (Lg A).symm⟩
 |dp i =>
  simp only[Ķ] at e
  split at e<;>try (cases e; done)
  ·rename_i id g
   split at e<;>try (cases e; done)
   rename_i k g' xss B
   split at e<;>try (cases e; done)
   rename_i O;obtain⟨o,z,y,r⟩:=į e;refine⟨o,fun j u l F c=>⟨?_,by simp only[jI,y,r]⟩⟩;have d:=l.bd i id z;have m:=F.at_ i id d;rw[B] at m;obtain⟨E,L,g2,V,s,_,C⟩:=c;rw[B] at s; cases s;exact⟨E,k,0,xss,m,bt _,fun _=>by rw[Ι d]; exact C (eq_of_beq O)⟩
  ·obtain⟨o,z,y,r⟩:=uu e;refine⟨o,fun j u l F c=>⟨?_,by simp only[jI,y,r]⟩⟩;have A:=l.newd i z;obtain⟨k,m⟩:=F.newd i A;have G:u=.slice none 0 0:=c;exact⟨by rw[G]; rfl,k,0,[],m,bt _,fun _=>⟨[],by rw[H6 A,G]⟩⟩
 |omp i =>
  simp only[Ķ] at e
  split at e<;>try (cases e; done)
  rename_i id
  split at e<;>try (cases e; done)
  rename_i k Z es B;obtain⟨o,z,y,r⟩:=į e;refine⟨o,fun j u l F c=>⟨?_,by simp only[jI,y,r]⟩⟩;have d:=l.bd i id z;have m:=F.at_ i id d;rw[B] at m;obtain⟨E,L,v2,S,s,C⟩:=c;exact⟨E,k,Z,es,m,C.trans (Ι d).symm⟩
 |box i off =>
  simp only[Ķ] at e
  split at e<;>try (cases e; done)
  rename_i id W
  split at e<;>try (cases e; done)
  rename_i I
  split at e<;>try (cases e; done)
  rename_i cs B;obtain⟨o,z,y,r⟩:=į e;refine⟨o,fun j u l F c=>⟨?_,by simp only[jI,y,r]⟩⟩;have d:=l.bd i id z;have m:=F.at_ i id d;rw[B] at m;obtain⟨U,m⟩:=m;obtain⟨cs',b,h1,h2,h3⟩:=c;exact⟨U,b,m,(Ι d).trans h2,by rw[eq_of_beq I]; exact h3⟩
 |nils =>
  simp only[Ķ] at e
  split at e<;>try (cases e; done)
  cases e;exact⟨Ext.refl _,fun j u _ _ c=>⟨c,rfl⟩⟩
 |nilp =>
  simp only[Ķ] at e
  split at e<;>try (cases e; done)
  cases e;exact⟨Ext.refl _,fun j u _ _ c=>⟨c,rfl⟩⟩
 |nilfn =>
  simp only[Ķ] at e
  split at e<;>try (cases e; done)
  cases e;exact⟨Ext.refl _,fun j u _ _ c=>⟨c,rfl⟩⟩
 |yld =>
  simp only[Ķ] at e
  split at e<;>try (cases e; done)
  cases e;exact⟨Ext.refl _,fun j u _ _ c=>⟨c,rfl⟩⟩
 |ofn i =>
  simp only[Ķ] at e
  split at e<;>try (cases e; done)
  rename_i id
  split at e<;>try (cases e; done)
  rename_i es B;obtain⟨o,z,y,r⟩:=į e;refine⟨o,fun j u l F c=>⟨?_,by simp only[jI,y,r]⟩⟩;have d:=l.bd i id z;have m:=F.at_ i id d;rw[B] at m;obtain⟨T,m⟩:=m;obtain⟨E,S,s,C⟩:=c;exact⟨E,T,m,C.trans (Ι d).symm⟩
 |fn f caps =>
  simp only[Ķ] at e
  split at e<;>try (cases e; done)
  rename_i f' vs
  split at e<;>try (cases e; done)
  rename_i R;obtain⟨o,y,r,_⟩:=Ł (ν:=ν) (w:=w) (h':=h') caps vs [] M M1 e;refine⟨o,fun j u l F c=>⟨?_,by simp only[jI,y,r]⟩⟩;obtain⟨fs,cs,rfl,K,J⟩:=c;have:=(Ł (ν:=ν) (w:=w) (h':=h') caps vs cs.toList M M1 e).2.2.2 j l F J;exact⟨fs,cs,by rw[eq_of_beq R],by rw[K.nil_left]; trivial,this⟩
 |fnd f ts =>
  simp only[Ķ] at e
  split at e<;>try (cases e; done)
  rename_i f' vs
  split at e<;>try (cases e; done)
  rename_i R;obtain⟨o,k⟩:=kI (ν:=ν) (h:=h) (w:=w) (h':=h') ts vs M M1 e;refine⟨o,fun j u l F c=>?_⟩;obtain⟨k1,L⟩:=k j l;obtain⟨fs,cs,rfl,K,J⟩:=c;exact⟨⟨fs,cs,by rw[eq_of_beq R],by rw[K.nil_left]; trivial,L cs.toList F J⟩,k1⟩
def md {b M M1:Mt} (c:M1.cons=M.cons) (h2:M1.vars=M.vars):rest b M=rest b M1:=by simp only[rest,c,h2]
def mh {p:Pat} {v:AV} {M M1:Mt} (e:Ķ h p v M=some M1):Ext M M1/\∀b,Ext M1 b->(jI p (rest b M)).2=rest b M1:=by
 cases p with
 |any=>cases e; exact⟨Ext.refl _,fun b _=>rfl⟩
 |con t =>
  simp only[Ķ] at e
  split at e<;>try (cases e; done)
  rename_i x o;cases e;refine⟨⟨fun _ _ q=>q,fun _ q=>q,fun _ q=>q,cp _ _,ce,fun _ q=>bY _ q,rfl⟩,fun b l=>?_⟩;have hd:=ý l.cons;simp only[rest,jI,hd]; simp
 |var t =>
  simp only[Ķ] at e
  split at e<;>try (cases e; done)
  rename_i x o;cases e;refine⟨⟨fun _ _ q=>q,fun _ q=>q,fun _ q=>q,ce,cp _ _,fun _ q=>bY _ q,rfl⟩,fun b l=>?_⟩;have hd:=ý l.vars;simp only[rest,jI,hd]; simp
 |own i =>
  simp only[Ķ] at e
  split at e<;>try (cases e; done)
  ·split at e<;>try (cases e; done)
   split at e<;>try (cases e; done)
   obtain⟨c,m,j,d⟩:=į e;exact⟨c,fun b l=>md j d⟩
  ·obtain⟨c,m,j,d⟩:=wA e;exact⟨c,fun b l=>md j d⟩
 |dp i =>
  simp only[Ķ] at e
  split at e<;>try (cases e; done)
  ·split at e<;>try (cases e; done)
   split at e<;>try (cases e; done)
   obtain⟨c,m,j,d⟩:=į e;exact⟨c,fun b l=>md j d⟩
  ·obtain⟨c,m,j,d⟩:=uu e;exact⟨c,fun b l=>md j d⟩
 |omp i =>
  simp only[Ķ] at e
  split at e<;>try (cases e; done)
  split at e<;>try (cases e; done)
  obtain⟨c,m,j,d⟩:=į e;exact⟨c,fun b l=>md j d⟩
 |box i off =>
  simp only[Ķ] at e
  split at e<;>try (cases e; done)
  split at e<;>try (cases e; done)
  split at e<;>try (cases e; done)
  obtain⟨c,m,j,d⟩:=į e;exact⟨c,fun b l=>md j d⟩
 |nils =>
  simp only[Ķ] at e
  split at e<;>try (cases e; done)
  cases e; exact⟨Ext.refl _,fun b _=>rfl⟩
 |nilp =>
  simp only[Ķ] at e
  split at e<;>try (cases e; done)
  cases e; exact⟨Ext.refl _,fun b _=>rfl⟩
 |nilfn =>
  simp only[Ķ] at e
  split at e<;>try (cases e; done)
  cases e; exact⟨Ext.refl _,fun b _=>rfl⟩
 |yld =>
  simp only[Ķ] at e
  split at e<;>try (cases e; done)
  cases e; exact⟨Ext.refl _,fun b _=>rfl⟩
 |ofn i =>
  simp only[Ķ] at e
  split at e<;>try (cases e; done)
  split at e<;>try (cases e; done)
  obtain⟨c,m,j,d⟩:=į e;exact⟨c,fun b l=>md j d⟩
 |fn f caps =>
  simp only[Ķ] at e
  split at e<;>try (cases e; done)
  rename_i r vs
  split at e<;>try (cases e; done)
  obtain⟨c,j,d,_⟩:=Ł (ν:=fun _=>undef) (w:=default) (h':=[]) caps vs [] M M1 e;exact⟨c,fun b l=>md j d⟩
 |fnd f ts =>
  simp only[Ķ] at e
  split at e<;>try (cases e; done)
  rename_i r vs
  split at e<;>try (cases e; done)
  obtain⟨c,k⟩:=kI (ν:=fun _=>undef) (h:=[]) (w:=default) (h':=[]) ts vs M M1 e;exact⟨c,fun b l=>(k b l).1⟩
def lU (p:Pat) (ps:AS Pat) (I:It):vq (p::ps) I=((jI p I).1::(vq ps (jI p I).2).1,(vq ps (jI p I).2).2):=rfl
def rq:∀{ps:AS Pat} {vs:AS AV} {M M1:Mt},By h ps vs M=some M1->Ext M M1/\∀b,Ext M1 b->(vq ps (rest b M)).2=rest b M1
 |[],vs,M,M1,e=>by cases e; exact⟨Ext.refl _,fun b _=>rfl⟩
 |p::ps,vs,M,M1,e=>by
  simp only[By] at e
  split at e<;>try (cases e; done)
  rename_i j f;obtain⟨i,t1⟩:=mh f;obtain⟨d,t2⟩:=rq e;exact⟨i.trans d,fun b c=>by rw[lU,t1 b (d.trans c)]; exact t2 b c⟩
def ET (H:HR ν h w):∀{ps:AS Pat} {vs:AS AV} {M M1:Mt},By h ps vs M=some M1->∀b,Ext M1 b->Fin ν h w b h'->∀f:Nat->Value,(∀k,VR ν h w (lk vs k) (f k)) ->
 ∀k,VR (νb b.bd ν) h' w (lk (vq ps (rest b M)).1 k) (f k)
 |[],vs,M,M1,e,b,_,_,f,_,k=>trivial
 |p::ps,vs,M,M1,e,b,c,F,f,d,k=>by
  simp only[By] at e
  split at e<;>try (cases e; done)
  rename_i o i;obtain⟨m,t1⟩:=mh i;obtain⟨j,t2⟩:=rq e;rw[lU,t1 b (j.trans c)]
  cases k with
  |zero=>exact((yh H i).2 b (f 0) (j.trans c) F (d 0)).1
  |succ k =>
   have l:∀k,lk vs.tail k=lk vs (k+1):=fun k=>by cases vs<;>rfl
   exact ET H e b c F (fun k=>f (k+1)) (fun k=>by rw[l]; exact d (k+1)) k
def jm:∀{ps:AS Pat} {vs:AS AV} {M M1:Mt},iY h ps vs M=some M1->Ext M M1/\∀b,Ext M1 b->(vq ps (rest b M)).2=rest b M1
 |[],[],M,M1,e=>by cases e; exact⟨Ext.refl _,fun b _=>rfl⟩
 |[],_::_,M,M1,e=>by cases e
 |_::_,[],M,M1,e=>by cases e
 |p::ps,v::vs,M,M1,e=>by
  simp only[iY] at e
  split at e<;>try (cases e; done)
  rename_i j f;obtain⟨i,t1⟩:=mh f;obtain⟨d,t2⟩:=jm e;exact⟨i.trans d,fun b c=>by rw[lU,t1 b (d.trans c)]; exact t2 b c⟩
def KI (p:Pat) (I:It):(jI p I).1.isAgg=false/\(jI p I).1.isTup=false:=by
 have b:∀d:DV,(KQ d).isAgg=false/\(KQ d).isTup=false:=fun d=>by
  obtain⟨t,x⟩:=d
  cases t<;>exact⟨rfl,rfl⟩
 cases p<;>simp only[jI]<;>try exact⟨rfl,rfl⟩
 ·split<;>first|exact b _|exact⟨rfl,rfl⟩
 ·split<;>first|exact b _|exact⟨rfl,rfl⟩
def sE (H:HR ν h w):∀{ps:AS Pat} {vs:AS AV} {us:AS Value} {M M1:Mt},iY h ps vs M=some M1->∀b,Ext M1 b->Fin ν h w b h'->ä (VRc ν h w) vs us ->
 ä (VRc (νb b.bd ν) h' w) (vq ps (rest b M)).1 us
 |[],[],us,M,M1,e,b,_,_,c=>by cases us with|nil=>trivial|cons=>exact c.elim
 |[],_::_,_,M,M1,e,_,_,_,_=>by cases e
 |_::_,[],_,M,M1,e,_,_,_,_=>by cases e
 |p::ps,v::vs,us,M,M1,e,b,f,F,c=>by
  simp only[iY] at e
  split at e<;>try (cases e; done)
  rename_i l i;obtain⟨k,t1⟩:=mh i;obtain⟨j,t2⟩:=jm e;rw[lU,t1 b (j.trans f)]
  cases us with
  |nil=>exact c.elim
  |cons u us =>
   have h2:=((yh H i).2 b u (j.trans f) F c.1.1.up).1;have d:=KI p (rest b M);exact⟨⟨h2.one d.1 d.2,c.1.2⟩,sE H e b f F c.2⟩
def pK (M:Mt) (d:DV):Ext M {M with cons:=M.cons++[d]}:=⟨fun _ _ q=>q,fun _ q=>q,fun _ q=>q,cp _ _,ce,fun _ q=>q,rfl⟩
def pI (M:Mt) (d:DV):Ext M {M with vars:=M.vars++[d]}:=⟨fun _ _ q=>q,fun _ q=>q,fun _ q=>q,ce,cp _ _,fun _ q=>q,rfl⟩
def rr {p:nf} {i:Nat} {M M1:Mt} (e:Ě h p i M=some M1):Ext M M1/\∀c,Ext M1 c->(jH p (rest c M)).2=rest c M1 /\
 ((∃id,ś M.bd i=some (.at_ id)/\kin (lkB h id) (jH p (rest c M)).1)\/(ś M.bd i=some .new/\∃t,(jH p (rest c M)).1=.row t 0 false [])\/(ś M.bd i=some .newd/\∃k,(jH p (rest c M)).1=.deep k 0 [])):=by
 cases p with
 |dead =>
  simp only[Ě] at e
  split at e<;>try (cases e; done)
  rename_i id hb
  split at e<;>try (cases e; done)
  rename_i d;cases e;exact⟨Ext.refl _,fun c _=>⟨rfl,.inl ⟨id,hb,by rw[d]; rfl⟩⟩⟩
 |cells ps =>
  simp only[Ě] at e
  split at e<;>try (cases e; done)
  rename_i id hb
  split at e<;>try (cases e; done)
  rename_i cs d;obtain⟨l,t1⟩:=jm e;exact⟨l,fun c b=>⟨t1 c b,.inl ⟨id,hb,by rw[d]; exact⟨_,rfl⟩⟩⟩⟩
 |rowc t =>
  simp only[Ě] at e
  split at e<;>try (cases e; done)
  ·rename_i id hb
   split at e<;>try (cases e; done)
   rename_i t' g xs d
   split at e<;>try (cases e; done)
   cases e;refine⟨pK _ _,fun c b=>?_⟩;have hd:=ý b.cons;simp only[rest,jH,hd];exact⟨by simp,.inl ⟨id,hb,by rw[d]; rfl⟩⟩
  ·rename_i hb;cases e;refine⟨pK _ _,fun c b=>?_⟩;have hd:=ý b.cons;simp only[rest,jH,hd];exact⟨by simp,.inr (.inl ⟨hb,t,rfl⟩)⟩
 |rowf t g =>
  simp only[Ě] at e
  split at e<;>try (cases e; done)
  rename_i id hb
  split at e<;>try (cases e; done)
  rename_i t' g' xs d
  split at e<;>try (cases e; done)
  split at e<;>try (cases e; done)
  rename_i q _;subst q;cases e;refine⟨pK _ _,fun c b=>?_⟩;have hd:=ý b.cons;simp only[rest,jH,hd];exact⟨by simp,.inl ⟨id,hb,by rw[d]; rfl⟩⟩
 |rowv t =>
  simp only[Ě] at e
  split at e<;>try (cases e; done)
  ·rename_i id hb
   split at e<;>try (cases e; done)
   rename_i t' g xs d
   split at e<;>try (cases e; done)
   cases e;refine⟨pI _ _,fun c b=>?_⟩;have hd:=ý b.vars;simp only[rest,jH,hd];exact⟨by simp,.inl ⟨id,hb,by rw[d]; rfl⟩⟩
  ·rename_i hb;cases e;refine⟨pI _ _,fun c b=>?_⟩;have hd:=ý b.vars;simp only[rest,jH,hd];exact⟨by simp,.inr (.inl ⟨hb,t,rfl⟩)⟩
 |mapc k v =>
  simp only[Ě] at e
  split at e<;>try (cases e; done)
  rename_i id hb
  split at e<;>try (cases e; done)
  rename_i f o es d
  split at e<;>try (cases e; done)
  cases e;refine⟨pK _ _,fun c b=>?_⟩;have hd:=ý b.cons;simp only[rest,jH,hd];exact⟨by simp,.inl ⟨id,hb,by rw[d]; rfl⟩⟩
 |mapv k v =>
  simp only[Ě] at e
  split at e<;>try (cases e; done)
  rename_i id hb
  split at e<;>try (cases e; done)
  rename_i f o es d
  split at e<;>try (cases e; done)
  cases e;refine⟨pI _ _,fun c b=>?_⟩;have hd:=ý b.vars;simp only[rest,jH,hd];exact⟨by simp,.inl ⟨id,hb,by rw[d]; rfl⟩⟩
 |deepc k =>
  simp only[Ě] at e
  split at e<;>try (cases e; done)
  ·rename_i id hb
   split at e<;>try (cases e; done)
   rename_i f g xss d
   split at e<;>try (cases e; done)
   cases e;refine⟨pK _ _,fun c b=>?_⟩;have hd:=ý b.cons;simp only[rest,jH,hd];exact⟨by simp,.inl ⟨id,hb,by rw[d]; rfl⟩⟩
  ·rename_i hb;cases e;refine⟨pK _ _,fun c b=>?_⟩;have hd:=ý b.cons;simp only[rest,jH,hd];exact⟨by simp,.inr (.inr ⟨hb,k,rfl⟩)⟩
 |deepv k =>
  simp only[Ě] at e
  split at e<;>try (cases e; done)
  ·rename_i id hb
   split at e<;>try (cases e; done)
   rename_i f g xss d
   split at e<;>try (cases e; done)
   cases e;refine⟨pI _ _,fun c b=>?_⟩;have hd:=ý b.vars;simp only[rest,jH,hd];exact⟨by simp,.inl ⟨id,hb,by rw[d]; rfl⟩⟩
  ·rename_i hb;cases e;refine⟨pI _ _,fun c b=>?_⟩;have hd:=ý b.vars;simp only[rest,jH,hd];exact⟨by simp,.inr (.inr ⟨hb,k,rfl⟩)⟩
 |fns es =>
  simp only[Ě] at e
  split at e<;>try (cases e; done)
  rename_i id hb
  split at e<;>try (cases e; done)
  rename_i j d;obtain⟨l,r,m,_⟩:=iE (ν:=fun _=>undef) (w:=default) (h':=[]) es j [] M M1 e;exact⟨l,fun c b=>⟨md r m,.inl ⟨id,hb,by rw[d]; exact⟨_,rfl⟩⟩⟩⟩
 |acc t =>
  simp only[Ě] at e
  split at e<;>try (cases e; done)
  rename_i id hb
  split at e<;>try (cases e; done)
  rename_i t' xs d
  split at e<;>try (cases e; done)
  cases e;refine⟨pI _ _,fun c b=>?_⟩;have hd:=ý b.vars;simp only[rest,jH,hd];exact⟨by simp,.inl ⟨id,hb,by rw[d]; rfl⟩⟩
def Mm (H:HR ν h w) {p:nf} {i id:Nat} {M M1:Mt} {cs:AS AV} (e:Ě h p i M=some M1) (hb:ś M.bd i=some (.at_ id)) (b:lkB h id=.cells cs) {d:Mt} (j:Ext M1 d) (F:Fin ν h w d h') {us:AS Value} (f:ä (VRc ν h w) cs us) :
 ∃c,(jH p (rest d M)).1=.cells c/\ä (VRc (νb d.bd ν) h' w) c us:=by
 cases p with
 |cells ps =>
  simp only[Ě,hb,b] at e;exact⟨_,rfl,sE H e d j F f⟩
 |dead=>simp[Ě,hb,b] at e
 |rowc t=>simp[Ě,hb,b] at e
 |rowf t g=>simp[Ě,hb,b] at e
 |rowv t=>simp[Ě,hb,b] at e
 |mapc k v=>simp[Ě,hb,b] at e
 |mapv k v=>simp[Ě,hb,b] at e
 |deepc k=>simp[Ě,hb,b] at e
 |deepv k=>simp[Ě,hb,b] at e
 |acc t=>simp[Ě,hb,b] at e
 |fns es=>simp[Ě,hb,b] at e
def Kk {p:nf} {i id:Nat} {M M1:Mt} {es:AS (ByteArray×AV)} (e:Ě h p i M=some M1) (hb:ś M.bd i=some (.at_ id)) (b:lkB h id=.fns es) {d:Mt} (j:Ext M1 d) (F:Fin ν h w d h') {ms:AS MapEntry} (f:DW ν h w es ms) :
 ∃c,(jH p (rest d M)).1=.fns c/\DW (νb d.bd ν) h' w c ms:=by
 cases p with
 |fns es0 =>
  simp only[Ě,hb,b] at e;exact⟨_,rfl,(iE es0 es ms M M1 e).2.2.2 d j F f⟩
 |cells ps=>simp[Ě,hb,b] at e
 |dead=>simp[Ě,hb,b] at e
 |rowc t=>simp[Ě,hb,b] at e
 |rowf t g=>simp[Ě,hb,b] at e
 |rowv t=>simp[Ě,hb,b] at e
 |mapc k v=>simp[Ě,hb,b] at e
 |mapv k v=>simp[Ě,hb,b] at e
 |deepc k=>simp[Ě,hb,b] at e
 |deepv k=>simp[Ě,hb,b] at e
 |acc t=>simp[Ě,hb,b] at e
def pu (p:nf) (ps:AS nf) (I:It):pX (p::ps) I=((jH p I).1::(pX ps (jH p I).2).1,(pX ps (jH p I).2).2):=rfl
def kv:∀(ps:AS nf) (I:It),(pX ps I).1.length=ps.length
 |[],_=>rfl
 |p::ps,I=>by rw[pu]; simp[kv ps]
def mg:∀{ps:AS nf} {i:Nat} {M M1:Mt},wc h ps i M=some M1->Ext M M1/\∀b,Ext M1 b->∀k,k<ps.length ->
 (∃id,ś b.bd (i+k)=some (.at_ id)/\kin (lkB h id) (lkB (pX ps (rest b M)).1 k))\/(ś b.bd (i+k)=some .new/\∃t,lkB (pX ps (rest b M)).1 k=.row t 0 false [])\/(ś b.bd (i+k)=some .newd/\∃q,lkB (pX ps (rest b M)).1 k=.deep q 0 [])
 |[],i,M,M1,e=>by cases e; exact⟨Ext.refl _,fun b _ k m=>by simp at m⟩
 |p::ps,i,M,M1,e=>by
  simp only[wc] at e
  split at e<;>try (cases e; done)
  rename_i u s;obtain⟨l,t1⟩:=rr s;obtain⟨j,t2⟩:=mg e;refine⟨l.trans j,fun b f k m=>?_⟩;obtain⟨r,o⟩:=t1 b (j.trans f);rw[pu,r]
  cases k with
  |zero =>
   rcases o with⟨id,d,c⟩|⟨d,c⟩|⟨d,c⟩
   ·exact .inl ⟨id,(l.trans (j.trans f)).bd _ _ d,c⟩
   ·exact .inr (.inl ⟨(l.trans (j.trans f)).new _ d,c⟩)
   ·exact .inr (.inr ⟨(l.trans (j.trans f)).newd _ d,c⟩)
  |succ k =>
   have:=t2 b f k (by simpa using m);rw[show i+(k+1)=i+1+k by omega];exact this
def EU (H:HR ν h w):∀{ps:AS nf} {i:Nat} {M M1:Mt},wc h ps i M=some M1->∀c,Ext M1 c->Fin ν h w c h'->∀k id cs us,k<ps.length->ś c.bd (i+k)=some (.at_ id)->lkB h id=.cells cs->ä (VRc ν h w) cs us ->
 ∃l,lkB (pX ps (rest c M)).1 k=.cells l/\ä (VRc (νb c.bd ν) h' w) l us
 |[],i,M,M1,e,c,_,_,k,_,_,_,m,_,_,_=>by simp at m
 |p::ps,i,M,M1,e,c,f,F,k,id,cs,us,m,hb,s,r=>by
  simp only[wc] at e
  split at e<;>try (cases e; done)
  rename_i y t;obtain⟨o,t1⟩:=rr t;obtain⟨j,t2⟩:=mg e;obtain⟨v,u⟩:=t1 c (j.trans f);rw[pu,v]
  cases k with
  |zero =>
   rcases u with⟨x,d,q⟩|⟨d,q⟩|⟨d,q⟩
   ·have:=(o.trans (j.trans f)).bd _ _ d;have b:ś c.bd i=some (.at_ id):=hb;rw[this] at b;cases b;exact Mm H t d s (j.trans f) F r
   ·have:=(o.trans (j.trans f)).new _ d;have b:ś c.bd i=some (.at_ id):=hb;rw[this] at b;cases b
   ·have:=(o.trans (j.trans f)).newd _ d;have b:ś c.bd i=some (.at_ id):=hb;rw[this] at b;cases b
  |succ k=>exact EU H e c f F k id cs us (by simpa using m) (by rw[show i+1+k=i+(k+1) by omega]; exact hb) s r
def Bz:∀{ps:AS nf} {i:Nat} {M M1:Mt},wc h ps i M=some M1->∀c,Ext M1 c->Fin ν h w c h'->∀k id es ms,k<ps.length->ś c.bd (i+k)=some (.at_ id)->lkB h id=.fns es->DW ν h w es ms ->
 ∃j,lkB (pX ps (rest c M)).1 k=.fns j/\DW (νb c.bd ν) h' w j ms
 |[],i,M,M1,e,c,_,_,k,_,_,_,m,_,_,_=>by simp at m
 |p::ps,i,M,M1,e,c,f,F,k,id,es,ms,m,hb,s,r=>by
  simp only[wc] at e
  split at e<;>try (cases e; done)
  rename_i y t;obtain⟨o,t1⟩:=rr t;obtain⟨l,t2⟩:=mg e;obtain⟨v,u⟩:=t1 c (l.trans f);rw[pu,v]
  cases k with
  |zero =>
   rcases u with⟨x,d,q⟩|⟨d,q⟩|⟨d,q⟩
   ·have:=(o.trans (l.trans f)).bd _ _ d;have b:ś c.bd i=some (.at_ id):=hb;rw[this] at b;cases b;exact Kk t d s (l.trans f) F r
   ·have:=(o.trans (l.trans f)).new _ d;have b:ś c.bd i=some (.at_ id):=hb;rw[this] at b;cases b
   ·have:=(o.trans (l.trans f)).newd _ d;have b:ś c.bd i=some (.at_ id):=hb;rw[this] at b;cases b
  |succ k=>exact Bz e c f F k id es ms (by simpa using m) (by rw[show i+1+k=i+(k+1) by omega]; exact hb) s r
def tU:∀{l:AS Bd} {i id:Nat},ś l i=some (.at_ id)->id∈wZ l
 |[],_,_,h=>by cases h
 |x::l,0,id,h=>by
  simp only[ś,Option.some.injEq] at h;subst h; simp[wZ]
 |x::l,i+1,id,h=>by
  have:=tU (l:=l) (i:=i) (id:=id) h
  cases x<;>simp[wZ,this]
def wx:∀{l:AS Bd} {i j id:Nat},mX (wZ l)=true->ś l i=some (.at_ id)->ś l j=some (.at_ id)->i=j
 |[],_,_,_,_,h,_=>by cases h
 |x::l,0,0,_,_,_,_=>rfl
 |x::l,0,j+1,id,hd,b,h2=>by
  simp only[ś,Option.some.injEq] at b;subst b;simp only[wZ,mX,bu] at hd;have:=tU (l:=l) (i:=j) (id:=id) h2;simp[this] at hd
 |x::l,i+1,0,id,hd,b,h2=>by
  simp only[ś,Option.some.injEq] at h2;subst h2;simp only[wZ,mX,bu] at hd;have:=tU (l:=l) (i:=i) (id:=id) b;simp[this] at hd
 |x::l,i+1,j+1,id,hd,b,h2=>by
  have c:mX (wZ l)=true:=by
   cases x<;>simp only[wZ,mX,bu] at hd<;>first|exact hd|exact hd.2
  rw[wx (l:=l) c b h2]
def J1 {pin n i:Nat} (hi:i<pin) (d:pin<=n):ś (qY pin n) i=some (.at_ i):=by
 have b:∀(l:AS Bd) (k:Nat),ś l k=l[k]?:=by
  intro l
  induction l with
  |nil=>intro k; simp[ś]
  |cons x l c=>intro k; cases k with
   |zero=>rfl
   |succ k=>simpa[ś] using c k
 rw[b,qY,dE,dY (by omega)];simp[hi]
def vr:∀{pin:Nat},Nb h pin=true->∀i,i<pin->(∀t g xs,lkB h i=.row t g false xs->g=0)/\∀k g xss,lkB h i=.deep k g xss->g=0
 |0,_,i,hi=>by omega
 |pin+1,f,i,hi=>by
  have b:Nb h pin=true/\(∀t g xs,lkB h pin=.row t (g+1) false xs->False)/\∀k g xss,lkB h pin=.deep k (g+1) xss->False:=by
   simp only[Nb] at f
   split at f<;>try (cases f; done)
   rename_i d c;exact⟨f,fun t g xs e=>d _ _ _ e,fun k g xss e=>c _ _ _ e⟩
  rcases Nat.lt_succ_iff_lt_or_eq.1 hi with l|rfl
  ·exact vr b.1 i l
  ·refine⟨fun t g xs j=>?_,fun k g xss j=>?_⟩
   ·cases g with
    |zero=>rfl
    |succ g=>exact(b.2.1 _ _ _ j).elim
   ·cases g with
    |zero=>rfl
    |succ g=>exact(b.2.2 _ _ _ j).elim
def BP:∀(l:AS AV) (n k:Nat),lk (l++List.replicate n .any) k=lk l k
 |[],0,_=>rfl
 |[],n+1,0=>rfl
 |[],n+1,k+1=>by simpa[List.replicate_succ,lk] using BP [] n k
 |x::l,n,0=>rfl
 |x::l,n,k+1=>by simpa[lk] using BP l n k
def wt:∀(ps:AS Pat) (I:It),(vq ps I).1.length=ps.length
 |[],_=>rfl
 |p::ps,I=>by rw[lU]; simp[wt ps]
def jQ:Ot:=by
 intro T pin cs vs S p v ν a w e H;unfold jl at e
 split at e<;>try (cases e; done)
 rename_i hc;simp only[bu,decide_eq_true_eq] at hc;obtain⟨c1,c2,c3,c4⟩:=hc
 split at e<;>try (cases e; done)
 rename_i N Z
 split at e<;>try (cases e; done)
 rename_i M hH
 split at e<;>try (cases e; done)
 rename_i hd;simp only[bu,bR] at hd;obtain⟨d1,d2⟩:=hd
 split at e<;>try (cases e; done)
 rename_i p' v' hp hv;cases e;have ep:G8 cs p=M.cons:=Ig cs _ _ hp;have ev:G8 vs v=M.vars:=Ig vs _ _ hv;obtain⟨eL,tL⟩:=rq Z;obtain⟨eH,Y⟩:=mg hH
 -- the state of the pattern
 have hI0:({cons:=G8 cs p,vars:=G8 vs v}:It)=rest M {bd:=qY pin T.heap.length,cons:=[],vars:=[],freed:=[]}:=by
  simp[rest,ep,ev]
 have K:Ý T cs vs p v={t:=(vq T.slots (rest M {bd:=qY pin T.heap.length,cons:=[],vars:=[],freed:=[]})).1++List.replicate (T.n-T.slots.length) .any,h:=(pX T.heap (rest M N)).1}:=by
  unfold Ý;rw[hI0];have:=tL M eH;show(St.mk _ _)=_;rw[show(vq T.slots (rest M {bd:=qY pin T.heap.length,cons:=[],vars:=[],freed:=[]})).2=rest M N from this]
 rw[K]
 have r:M.bd.length=T.heap.length:=by rw[eH.len,eL.len]; simp[qY]
 have G:(pX T.heap (rest M N)).1.length=T.heap.length:=kv _ _
 have F:Fin ν S.h w M (pX T.heap (rest M N)).1:=by
  refine⟨fun i id hb=>?_,fun i hb=>?_,fun i hb=>?_,fun i h1 h2 h3=>?_,fun id hid i hb=>?_,fun i j id=>wx d1⟩
  ·have hi:i<T.heap.length:=by rw[<-r]; exact mP hb
   rcases Y M (Ext.refl _) i hi with⟨B,d,q⟩|⟨d,_⟩|⟨d,_⟩
   ·rw[bX,hb] at d; cases d; exact q
   ·rw[bX,hb] at d; cases d
   ·rw[bX,hb] at d; cases d
  ·have hi:i<T.heap.length:=by rw[<-r]; exact mP hb
   rcases Y M (Ext.refl _) i hi with⟨B,d,q⟩|⟨d,q⟩|⟨d,q⟩
   ·rw[bX,hb] at d; cases d
   ·exact q
   ·rw[bX,hb] at d; cases d
  ·have hi:i<T.heap.length:=by rw[<-r]; exact mP hb
   rcases Y M (Ext.refl _) i hi with⟨B,d,q⟩|⟨d,q⟩|⟨d,q⟩
   ·rw[bX,hb] at d; cases d
   ·rw[bX,hb] at d; cases d
   ·exact q
  ·rcases cd i T.heap.length with hi|hi
   ·rcases Y M (Ext.refl _) i hi with⟨B,d,q⟩|⟨d,q⟩|⟨d,q⟩
    ·rw[bX] at d; exact absurd d (h1 B)
    ·rw[bX] at d; exact absurd d h2
    ·rw[bX] at d; exact absurd d h3
   ·exact wq _ _ (by rw[G]; exact hi)
  ·have:=d2 id hid;have hm:=tU hb;simp[hm] at this
 have hHR:HR (νb M.bd ν) (pX T.heap (rest M N)).1 w:=by
  refine⟨fun i=>?_,fun i j b hi hj y hbj=>?_,H.heap.ghlt,fun i b s hb hg=>?_,H.heap.glob,fun b hb Z=>H.heap.globL b hb (F.subL b Z)⟩
  rotate_left 2
  ·obtain⟨id,d,q⟩:=F.subL b ⟨i,s,hb⟩;exact H.heap.ghne id b d q hg
  ·cases hb:ś M.bd i with
   |none=>rw[F.out i (by simp[hb]) (by simp[hb]) (by simp[hb])]; trivial
   |some x =>
    cases x with
    |open_=>rw[F.out i (by simp[hb]) (by simp[hb]) (by simp[hb])]; trivial
    |newd =>
     obtain⟨k,f⟩:=F.newd i hb;rw[f];exact⟨none,0,[],H6 hb,bt _,dZ _ _,.inl ⟨rfl,rfl⟩,trivial⟩
    |new =>
     obtain⟨t,ht⟩:=F.new i hb;rw[ht];exact⟨none,0,Lg hb,bt _,.inl ⟨rfl,rfl⟩⟩
    |at_ id =>
     have f:=F.at_ i id hb;have C:=H.heap.blk id
     cases s:lkB S.h id with
     |dead=>rw[s] at f; rw[show lkB _ i=_ from f]; trivial
     |cells c =>
      rw[s] at C;obtain⟨b,W,e',d,q,A⟩:=C
      have hi:i<T.heap.length:=by rw[<-r]; exact mP hb
      obtain⟨cs',E,I⟩:=EU H.heap hH M (Ext.refl _) F i id c W.toList hi (by rw[bX]; exact hb) s A;rw[E];exact⟨b,W,e',(Ι hb).trans d,q,I⟩
     |row t g fz xs =>
      rw[s] at f C
      cases fz with
      |true =>
       rw[show lkB _ i=_ from f];show CR w _ (.slice t) xs [_];rw[Ι hb];exact CR.mono F.sub C
      |false =>
       rw[show lkB _ i=_ from f];obtain⟨base,cap,d,q,A⟩:=C;refine⟨base,cap,(Ι hb).trans d,q,?_⟩;rcases A with A|⟨b,off,c,e',E,I,O,q7⟩
       ·exact .inl A
       ·refine .inr ⟨b,off,c,e',E,I,O,fun j x R=>?_⟩;obtain⟨us,q8,q9⟩:=q7 j x R;exact⟨us,CR.mono F.sub q8,q9⟩
     |map k u es =>
      rw[s] at f C;rw[show lkB _ i=_ from f];obtain⟨b,l,z,d,q,A,E⟩:=C;refine⟨b,l,z,(Ι hb).trans d,q,A,fun j x R=>?_⟩;obtain⟨m,us,I,O,q7,q8⟩:=E j x R;exact⟨m,us,I,CR.mono F.sub O,CR.mono F.sub q7,q8⟩
     |fns es =>
      rw[s] at C;obtain⟨b,l,z,d,q,A⟩:=C
      have hi:i<T.heap.length:=by rw[<-r]; exact mP hb
      obtain⟨es',E,I⟩:=Bz hH M (Ext.refl _) F i id es l.toList hi (by rw[bX]; exact hb) s A;rw[E];exact⟨b,l,z,(Ι hb).trans d,q,I⟩
     |deep k g xss =>
      rw[s] at f C;rw[show lkB _ i=_ from f];obtain⟨base,cap,us,d,q⟩:=C;exact⟨base,cap,us,(Ι hb).trans d,q⟩
     |acc t xs =>
      rw[s] at f C;rw[show lkB _ i=_ from f];obtain⟨us,d,q,A,E⟩:=C;refine⟨us,(Ι hb).trans d,by rw[Ι hb]; exact q,A,?_⟩;rw[Ι hb];exact É.st _ _ _ _ _ _ E ⟨rfl,rfl,rfl,bt _,fun b _ hn R=>hn (F.sub b R),fun b o ho _ _=>ho,fun b o ho _ _=>ho,fun _ _ _=>rfl⟩
  ·have V:∀i,(lkB (pX T.heap (rest M N)).1 i).live=true->ć (νb M.bd ν i) b->∃id,ś M.bd i=some (.at_ id)/\(lkB S.h id).live=true/\ć (ν id) b:=fun i hi y=>by
    cases hb:ś M.bd i with
    |none=>rw[F.out i (by simp[hb]) (by simp[hb]) (by simp[hb])] at hi; cases hi
    |some x =>
     cases x with
     |open_=>rw[F.out i (by simp[hb]) (by simp[hb]) (by simp[hb])] at hi; cases hi
     |new=>simp only[νb,hb] at y; cases y
     |newd =>
      simp only[νb,hb] at y;obtain⟨u,hu,y⟩:=y;simp at hu;subst hu;cases y
     |at_ id =>
      refine⟨id,rfl,?_,by simpa[νb,hb] using y⟩;have f:=F.at_ i id hb
      cases U:lkB S.h id with
      |dead=>rw[U] at f; rw[show lkB _ i=_ from f] at hi; cases hi
      |cells=>rfl
      |map=>rfl
      |deep=>rfl
      |acc=>rfl
      |fns=>rfl
      |row t g fz xs =>
       cases fz with
       |false=>rfl
       |true=>rw[U] at f; rw[show lkB _ i=_ from f] at hi; cases hi
   obtain⟨id,d,q,A⟩:=V i hi y;obtain⟨B,E,I,O⟩:=V j hj hbj;have:=H.heap.inj id B b q I A O;subst this;exact F.inj i j id d E
 have J:∀i,i<pin->ś M.bd i=some (.at_ i):=fun i hi=>(eL.trans eH).bd i i (J1 hi c1);refine⟨νb M.bd ν,⟨H.defers,?_,fun i=>?_,hHR⟩,⟨rfl,rfl,rfl,bt _,fun b _ hb=>⟨rfl,fun hb'=>hb (F.subL b hb')⟩,fun i hi=>?_⟩,by rw[G]; exact c1,fun i hi L=>?_⟩
 ·have:=H.len;simp only[bz,dL,wt];omega
 ·simp only[BP];exact ET H.heap Z M eH F (fun k=>a.tmps.getD k undef) (fun k=>H.tmps k) i
 ·have hb:=J i hi;have f:=F.at_ i i hb
  cases s:lkB S.h i with
  |dead=>trivial
  |cells c=>rw[s] at f; exact⟨f,Ι hb⟩
  |row t g fz xs =>
   rw[s] at f
   cases fz with
   |true=>exact⟨g,true,xs,f,bt _,fun _=>⟨Ι hb,rfl⟩⟩
   |false =>
    have hg:=(vr c4 i hi).1 t g xs s;exact⟨0,false,xs,f,by omega,fun _=>⟨Ι hb,rfl⟩⟩
  |map k u es=>rw[s] at f; exact⟨⟨es,f⟩,Ι hb⟩
  |deep k g xss =>
   rw[s] at f;have hg:=(vr c4 i hi).2 k g xss s;exact⟨0,xss,f,by omega,fun _=>⟨Ι hb,rfl⟩⟩
  |acc t xs=>rw[s] at f; exact⟨xs,f⟩
  |fns es=>rw[s] at f; exact⟨f,Ι hb⟩
 ·have f:=F.at_ i i (J i hi);rw[L] at f;exact f
end
end Go.Am
end

noncomputable section
namespace Go.Am
variable [Globs] [É]
section
variable {ρ:Type} {ν ν':Nat->Value} {h h':AS Blk} {w w':World} {P:Program}
def Ő (w:World) (G:Nat->Prop) (t:Ty) (x:Val t) (v:Value):Prop:=∃us,CR w G t x us/\v=nJ t us
def AT (w:World) (G:Nat->Prop):(l:AS Ty)->(t:Ty)->Val (tys t l)->AS Value->Prop
 |[],t,x,vs=>∃v,vs=[v]/\Ő w G t x v
 |u::l,t,x,vs=>∃v b,vs=v::b/\Ő w G t (x:Val t×Val (tys u l)).1 v/\AT w G l u (x:Val t×Val (tys u l)).2 b
def AL (w:World) (G:Nat->Prop):(l:AS Ty)->Val (tyL l)->AS Value->Prop
 |[],_,vs=>vs=[]
 |t::l,x,vs=>AT w G l t x vs
def RR (w:World) (G:Nat->Prop):(l:AS Ty)->Val (tyL l)->Value->Prop
 |[],_,u=>u=.tuple #[]
 |[t],x,u=>Ő w G t x u
 |t::u'::l,x,u=>∃vs,u=.tuple vs/\AT w G (u'::l) t x vs.toList
def Š (P:Program) (f:Nat) (p:Ğ):Prop :=
 ∀(G:Nat->Prop) (x:Val (tyL p.ts)) (y:Val (tyL p.rs)),p.F x=some y->∀(w:World) (vals:AS Value),(∀b,G b->b<w.heap.size)->Globs.Φ w->AL w G p.ts x vals ->
  (∃fn c,P.funcs[f]?=some fn/\fn.body=some c) /\
  CallsIn Fence.wide 0 P f vals.toArray w fun e w'=>∃u,e=.returned u/\RR w' G p.rs y u/\(∀b,b<w.heap.size->w'.heap[b]?=w.heap[b]?)/\w.heap.size<=w'.heap.size/\w'.os=w.os/\w'.tape=w.tape/\w'.output=w.output
def DA {a:AV} {vs:AS AV} (e:ģ a=some vs):fS a=vs:=by
 cases a<;>simp only[ģ,Option.some.injEq,reduceCtorEq] at e<;>exact e
def oX {G:Nat->Prop} {t:Ty} {x:Val t} {a:AV} {v:Value} {vs:AS AV} (d:(BW a==t.isAgg)=true) (i:ģ a=some vs) (j:VR ν h w a v)
 (r:∀c∈fS a,∀u,VR1 ν h w c u->VRs w G (ç h c) u) (e:Ï t (vs.map (ç h))=some x):Ő w G t x v:=by
 have f:=j.cells i;have h2:ä (VRs w G) (vs.map (ç h)) v.cells.toList:=ä.map_left (aux vs _ f fun c o u k=>r c (by rw[DA i]; exact o) u k.1);refine⟨_,ü e h2,?_⟩
 cases ha:a.isAgg with
 |true =>
  cases a<;>try cases ha
  obtain⟨us,rfl,_⟩:=j
  have:t.isAgg=true:=by simpa[BW] using d
  simp[nJ,this,Value.cells]
 |false =>
  have s:BW a=false:=by cases a<;>first|rfl|cases ha
  have m:t.isAgg=false:=by rw[s] at d; simpa using d
  have l:a.isTup=false:=by cases a<;>first|rfl|cases i
  have y:=(j.one ha l).oneCell i;simp[nJ,m,jz y]
where
 aux {w:World} {G:Nat->Prop} {ν:Nat->Value} {h:AS Blk} (vs:AS AV) (us:AS Value) (f:ä (VRc ν h w) vs us) (p:∀c∈vs,∀u,VRc ν h w c u->VRs w G (ç h c) u):ä (fun c b=>VRs w G (ç h c) b) vs us:=by
  induction vs generalizing us with
  |nil=>cases us with
   |nil=>trivial
   |cons=>exact f.elim
  |cons c vs q=>cases us with
   |nil=>exact f.elim
   |cons u us=>exact⟨p c (by simp) u f.1,q us f.2 fun c o u k=>p c (by simp[o]) u k⟩
def DN (H:HR ν h w) {G:Nat->Prop} {t:Ty} {x:Val t} {a:AV} {v:Value} (p:VR ν h w a v)
 (L:∀c∈fS a,∀u,VR1 ν h w c u->VRs w G (ç h c) u) (hb:∀id cs,a=.box id 0->lkB h id=.cells cs->(∀b,ć (ν id) b->¬G b)/\∀c∈cs,∀u,VR1 ν h w c u->VRs w G (ç h c) u) (hd:∀id g,a=.dp id g->(lkB h id).live=true->∀b,ć (ν id) b->¬G b) (e:OI h t a=some x):Ő w G t x v:=by
 cases B:(match t with|.ptr _=>true|_=>false) with
 |false =>
  by_cases m:∃id g,a=.dp id g
  ·obtain⟨id,g,rfl⟩:=m
   have d:(match lkB h id with
    |.deep k g' xss=>match g==g' with
     |true=>match decEq (Ty.slice (.slice (.int k))) t with
      |isTrue e=>some (l8 (F:=Val) e xss)
      |isFalse _=>none
     |false=>none
    |_=>none)=some x:=by
    cases t<;>first|exact e|cases B
   split at d<;>try (cases d; done)
   rename_i k g' xss j
   split at d<;>try (cases d; done)
   rename_i T
   split at d<;>try (cases d; done)
   rename_i A _;subst A;cases d;obtain⟨Z,Y,g2,K,l,_,R⟩:=p;rw[j] at l; cases l;have i:=D6 H j (R (by simpa using T)) (hd id g rfl (by rw[j]; rfl));exact⟨[v],i,rfl⟩
  have d:(match BW a==t.isAgg with|true=>(match ģ (Ij h a) with|some cs=>Ï t cs|none=>none)|false=>none)=some x:=by
   have S:∀id g,a≠.dp id g:=fun id g q=>m ⟨id,g,q⟩
   cases t<;>first|(cases B; done)|(cases a<;>first|exact e|exact absurd rfl (S _ _))
  split at d<;>try (cases d; done)
  rename_i E
  split at d<;>try (cases d; done)
  rename_i cs f;obtain⟨vs,z,rfl⟩:=uH f;exact oX E z p L d
 |true =>
  cases t<;>try cases B
  rename_i u;simp only[OI] at e
  split at e<;>try (cases e; done)
  ·rename_i id
   split at e<;>try (cases e; done)
   rename_i cs j;obtain⟨W,b,z,h2,J⟩:=p.one rfl rfl;have N:=H.blk id;rw[j] at N;obtain⟨b',c,d,s,r,I⟩:=N;rw[h2] at s; cases s;obtain⟨V,f⟩:=hb id cs rfl j;have i:CR w G u x c.toList:=ü e (ä.map_left (oX.aux cs _ I fun c U u O=>f c U u O.1));refine⟨[v],⟨b,0,c.toList,by rw[J],V b (by rw[h2]; rfl),Õ r,i,Ĕ.of_cells r⟩,rfl⟩
  ·rename_i t' y
   split at e<;>try (cases e; done)
   rename_i C _;subst C;cases e;have z:=L _ (by simp[fS]) v (p.one rfl rfl);obtain⟨b,o,us,h2,J,s,r,I⟩:=z;exact⟨[v],⟨b,o,us,by rw[h2]; rfl,J,s,r,I⟩,rfl⟩
def zU (H:HR ν h w) {G:Nat->Prop}:∀(l:AS Ty) (t:Ty) (x:Val (tys t l)) (as:AS AV) (vs:AS Value),ä (VR ν h w) as vs ->
 (∀a∈as,∀c∈fS a,∀u,VR1 ν h w c u->VRs w G (ç h c) u)->(∀a∈as,∀id cs,a=.box id 0->lkB h id=.cells cs->(∀b,ć (ν id) b->¬G b)/\∀c∈cs,∀u,VR1 ν h w c u->VRs w G (ç h c) u)->(∀a∈as,∀id g,a=.dp id g->(lkB h id).live=true->∀b,ć (ν id) b->¬G b)->DM h l t as=some x->AT w G l t x vs
 |[],t,x,[],vs,_,_,_,_,e=>by cases e
 |[],t,x,[a],vs,d,f,hb,hd,e=>by
  obtain⟨v,rfl,k⟩:=d.one;exact⟨v,rfl,DN H k (f a (by simp)) (hb a (by simp)) (hd a (by simp)) e⟩
 |[],t,x,_::_::_,vs,_,_,_,_,e=>by cases e
 |u::l,t,x,[],vs,_,_,_,_,e=>by cases e
 |u::l,t,x,a::as,[],d,_,_,_,e=>d.elim
 |u::l,t,x,a::as,v::vs,d,f,hb,hd,e=>by
  simp only[DM] at e
  split at e<;>try (cases e; done)
  rename_i y j
  split at e<;>try (cases e; done)
  rename_i z i;cases e;exact⟨v,vs,rfl,DN H d.1 (f a (by simp)) (hb a (by simp)) (hd a (by simp)) j,zU H l u z as vs d.2 (fun a ha=>f a (by simp[ha])) (fun a ha=>hb a (by simp[ha])) (fun a ha=>hd a (by simp[ha])) i⟩
def uw (H:HR ν h w) {G:Nat->Prop} {l:AS Ty} {x:Val (tyL l)} {as:AS AV} {vs:AS Value} (d:ä (VR ν h w) as vs)
 (f:∀a∈as,∀c∈fS a,∀u,VR1 ν h w c u->VRs w G (ç h c) u) (hb:∀a∈as,∀id cs,a=.box id 0->lkB h id=.cells cs->(∀b,ć (ν id) b->¬G b)/\∀c∈cs,∀u,VR1 ν h w c u->VRs w G (ç h c) u) (hd:∀a∈as,∀id g,a=.dp id g->(lkB h id).live=true->∀b,ć (ν id) b->¬G b) (e:rR h l as=some x):AL w G l x vs:=by
 cases l with
 |nil=>cases as with
  |nil=>exact d.nil_left
  |cons=>cases e
 |cons t l=>exact zU H l t x as vs d f hb hd e
def Ő.mono {G G':Nat->Prop} (d:∀b,G' b->G b) {t:Ty} {x:Val t} {v:Value} (c:Ő w G t x v):Ő w G' t x v:=by
 obtain⟨us,e,h2⟩:=c;exact⟨us,CR.mono d e,h2⟩
def vu {av f:Nat->Prop}:∀{t:Ty} {x:Val t} {us:AS Value},(flat t x).all qj=true->CR w av t x us->CR w f t x us
 |.unit,_,_,_,d=>d
 |.bool,_,_,_,d=>d
 |.int _,_,_,_,d=>d
 |.str,_,_,_,d=>d
 |.slice _,_,_,c,_=>by simp[flat,qj] at c
 |.map _ _,_,_,c,_=>by simp[flat,qj] at c
 |.ptr _,_,_,c,_=>by simp[flat,qj] at c
 |.pair a b,x,us,c,d=>by
  simp only[flat,List.all_append,bu] at c;obtain⟨u1,i,e,j,h2⟩:=d;exact⟨u1,i,e,vu c.1 j,vu c.2 h2⟩
def No {t:Ty} {x:Val t} (b:plain (enc t x)=true):(flat t x).all qj=true:=by
 cases t<;>first|exact b|(simp only[enc,plain,qj] at b; simp[flat,qj])|(simp[enc,plain,qj] at b)
def Ő.plain {G G':Nat->Prop} {t:Ty} {x:Val t} {v:Value} (c:plain (enc t x)=true) (b:Ő w G t x v):Ő w G' t x v:=by
 obtain⟨us,d,h2⟩:=b;exact⟨us,vu (No c) d,h2⟩
def AT.plain {G G':Nat->Prop}:∀{l:AS Ty} {t:Ty} {x:Val (tys t l)} {vs:AS Value},(Np l t x).all Go.Am.plain=true->AT w G l t x vs->AT w G' l t x vs
 |[],t,x,vs,b,⟨v,c,h2⟩=>⟨v,c,h2.plain (by simpa[Np] using b)⟩
 |u::l,t,x,vs,b,⟨v,vs',c,h2,d⟩=>by
  simp only[Np,dN,bu] at b;exact⟨v,vs',c,h2.plain b.1,AT.plain b.2 d⟩
def Ew {v:AV} (b:v.isTup=false):xS v=Go.Am.plain v:=by cases v<;>first|rfl|cases b
def vx {t:Ty} {x:Val t}:(enc t x).isTup=false:=by cases t<;>rfl
def RR.plain {G G':Nat->Prop}:∀{l:AS Ty} {x:Val (tyL l)} {u:Value},xS (Gy l x)=true->RR w G l x u->RR w G' l x u
 |[],_,_,_,h=>h
 |[t],x,u,b,h=>Ő.plain ((Ew (vx (t:=t) (x:=x))).symm.trans b) h
 |t::u'::l,x,u,b,⟨vs,c,h2⟩=>⟨vs,c,h2.plain b⟩
def Ő.VR {t:Ty} {x:Val t} {v:Value} (b:Ő w (Av ν h) t x v):VR ν h w (enc t x) v:=by
 obtain⟨us,c,rfl⟩:=b;exact ww c
def AT.VR:∀{l:AS Ty} {t:Ty} {x:Val (tys t l)} {vs:AS Value},AT w (Av ν h) l t x vs->ä (VR ν h w) (Np l t x) vs
 |[],t,x,_,⟨v,rfl,h2⟩=>⟨h2.VR,trivial⟩
 |u::l,t,x,_,⟨v,vs',rfl,h2,b⟩=>⟨h2.VR,AT.VR b⟩
def zz:∀{l:AS Ty} {t:Ty} {x:Val (tys t l)},∀a∈Np l t x,a.isTup=false
 |[],t,x,a,b=>by simp only[Np,bE] at b; rw[b]; exact vx
 |u::l,t,x,a,b=>by
  simp only[Np,bC] at b;rcases b with rfl|b
  ·exact vx
  ·exact zz a b
def ä.VR2:∀{as:AS AV} {vs:AS Value},ä (VR ν h w) as vs->(∀a∈as,a.isTup=false)->ä (VR2 ν h w) as vs
 |[],[],_,_=>trivial
 |a::as,v::vs,b,c=>⟨by rw[<-nc (c a (by simp))]; exact b.1,ä.VR2 b.2 fun a ha=>c a (by simp[ha])⟩
 |[],_::_,b,_=>b.elim
 |_::_,[],b,_=>b.elim
def RR.VR:∀{l:AS Ty} {x:Val (tyL l)} {u:Value},RR w (Av ν h) l x u->VR ν h w (Gy l x) u
 |[],_,_,h=>by cases h; exact⟨#[],rfl,trivial⟩
 |[t],x,u,h=>Ő.VR h
 |t::u'::l,x,u,⟨vs,b,h2⟩=>⟨vs,b,ä.VR2 h2.VR zz⟩
def uB (P:Program) (g:Nat) (ν:Nat->Value) (h:AS Blk) (w:World) (vals:AS Value) (K:AV->AS Blk->AN ρ) (r:ρ):Prop :=
 (∃fn c,P.funcs[g]?=some fn/\fn.body=some c) /\
 CallsIn Fence.wide 0 P g vals.toArray w fun e w'=>∃ν' h' v u,e=.returned u/\VR ν' h' w' v u/\HR ν' h' w'/\Ev h.length ν h w ν' h' w'/\h.length<=h'.length/\(∀j,j<h.length->lkB h j=.dead->lkB h' j=.dead)/\K v h'=some r
def Jc {c:AV} {u:Value}:∀{as:AS AV} {h:AS Blk},HR ν h w->c∈as->yd c=true->VR1 ν h w c u->VRs w (Av ν (pY h as)) (ç h c) u
 |[],_,_,b,_,_=>by cases b
 |a::as,h,H,b,e,d=>by
  obtain⟨i,f,j⟩:=zf H a;rcases bC.1 b with rfl|b
  ·exact VRs.mono ((rJ as f).2.2) (ze H d e)
  ·have:=Jc (as:=as) f b e (d.ev i)
   rwa [uI] at this
def Ka {f:Nat} {p:Ğ} (V:Š P f p) {b:Bool} {d:AS AV} {K:AV->AS Blk->AN ρ} {r:ρ} (e:CC b p h d K=some r) (H:HR ν h w) {vals:AS Value} (E:ä (VR ν h w) d vals):uB P f ν h w vals K r:=by
 unfold CC at e
 split at e<;>try (cases e; done)
 rename_i x C;simp only[Â] at e
 split at e<;>try (cases e; done)
 rename_i y T
 -- the call, with what may not be touched
 have call:∀(G:Nat->Prop),(∀b,G b->b<w.heap.size)->AL w G p.ts x vals->∀(h':AS Blk),HR ν h' w->Ev h.length ν h w ν h' w->h.length<=h'.length->(∀j,j<h.length->lkB h j=.dead->lkB h' j=.dead) ->
  (∀w' u,RR w' G p.rs y u->RR w' (Av ν h') p.rs y u)->K (Gy p.rs y) h'=some r->uB P f ν h w vals K r:=by
  intro G Y N h' B ev A q I W;obtain⟨Z,h2⟩:=V G x y T w vals Y H.glob N;refine⟨Z,h2.mono fun e w' U=>?_⟩;obtain⟨u,rfl,g1,g2,g3,g4,g5,g6⟩:=U;obtain⟨O,R⟩:=B.grow g2 g3 g4 g5 g6 h.length;exact⟨ν,h',_,u,rfl,(I w' u g1).VR,R,ev.trans O (bt _),A,q,W⟩
 split at e
 ·rename_i J;exact call É.G (fun b hb=>H.ghlt b hb) (uw H E (fun a _ c _ u o=>Ba H o) (fun _ _ id cs _ A=>⟨fun b hb L=>H.ghne id b (by rw[A]; rfl) hb L,fun c _ u o=>Ba H o⟩) (fun _ _ id g _ A b hb L=>H.ghne id b A hb L) C) h H (Ev.refl _ _ _ _) (bt _) (fun _ _ hd=>hd) (fun w' u t=>t.plain J) e
 ·split at e
  ·rename_i v
   have i:∀a∈d,zW a=false:=fun a ha=>by have:=bR.1 v a ha; simpa using this
   refine call (Av ν h) (fun b hb=>H.ltA hb) (uw H E (fun a ha c m u o=>?_) (fun a ha id cs k _=>?_) (fun a ha id g k=>?_) C) h H (Ev.refl _ _ _ _) (bt _) (fun _ _ hd=>hd) (fun w' u t=>t) e
   ·have s:rU c=false:=by
     have:=i a ha
     cases a<;>first
      |(simp only[fS,bE] at m; subst m; exact this)
      |(simp only[fS] at m; simp only[zW,cN] at this; simpa using this c m)
    have:ç h c=c:=by cases c<;>first|rfl|cases s
    rw[this]; exact o.data
   ·subst k; cases i _ ha
   ·subst k; cases i _ ha
  ·split at e<;>try (cases e; done)
   rename_i z;simp only[Bool.or_eq_false_iff,df] at z;have l:∀a∈d,Mh a=true:=bR.1 z.2;obtain⟨ev,B,S⟩:=rJ (d.flatMap fS) H;refine call (Av ν (pY h (d.flatMap fS))) (fun b hb=>B.ltA hb) (uw H E (fun a ha c m u o=>?_) (fun a ha id cs k _=>?_) (fun a ha id g k=>?_) C) _ B ev (by rw[Ń]; exact bt _) (fun _ _ hd=>zc _ hd) (fun w' u t=>t) e
   ·refine Jc H (bP.2 ⟨a,ha,m⟩) ?_ o;have:=l a ha
    have s:Mg c=true:=by
     cases a<;>first
      |(simp only[fS,bE] at m; subst m; exact this)
      |(simp only[fS] at m; simp only[Mh,bR] at this; exact this c m)
    cases c<;>first|rfl|cases s
   ·subst k; cases l _ ha
   ·subst k; cases l _ ha
end
end Go.Am
end

noncomputable section
namespace Go.Am
section
variable {w w':World} {X X':Nat->Prop}
structure Qm (w:World) (X:Nat->Prop) (w':World) (X':Nat->Prop):Prop where
 size:w.heap.size<=w'.heap.size
 av:∀b,b<w.heap.size->¬X b->¬X' b
 dat:∀(b:Nat) (o:Obj),w.heap[b]?=some o->wH o=true->¬X b->w'.heap[b]?=some o
def P1 {w:World} {a:Addr} {v:Value} (h:w.cell? a=some v):∃o,w.heap[a.block]?=some o/\wH o=true/\∀w':World,w'.heap[a.block]?=some o->w'.cell? a=some v:=by
 unfold World.cell? at h
 split at h<;>try (cases h; done)
 rename_i c e r hb;exact⟨_,hb,rfl,fun w' h'=>by unfold World.cell?; rw[h']; exact h⟩
def Ĕ.kx (K:Qm w X w' X') {b off:Nat} {vs:AS Value} (hb:¬X b) (h:Ĕ w b off vs):Ĕ w' b off vs:=fun j v c=>by
 obtain⟨o,e,h2,d⟩:=P1 (h j v c);exact d w' (K.dat b o e h2 hb)
def CR.kx (K:Qm w X w' X'):∀{t:Ty} {x:Val t} {vs:AS Value},CR w X t x vs->CR w' X' t x vs
 |.unit,_,_,h=>h
 |.bool,_,_,h=>h
 |.int _,_,_,h=>h
 |.str,_,_,h=>h
 |.slice t,xs,vs,h=>by
  obtain⟨base,cap,e,q,h⟩:=h;refine⟨base,cap,e,q,?_⟩;rcases h with h|⟨b,off,hb,c,d,h⟩
  ·exact .inl h
  ·refine .inr ⟨b,off,hb,K.av b d c,bH d K.size,fun i x j=>?_⟩;obtain⟨us,f,h2⟩:=h i x j;exact⟨us,CR.kx K f,h2.kx K c⟩
 |.map k v,es,vs,h=>by
  obtain⟨r,e,h⟩:=h;refine⟨r,e,?_⟩;rcases h with h|⟨b,entries,clock,p,c,l,o,h⟩
  ·exact .inl h
  ·refine .inr ⟨b,entries,clock,p,K.av b (Õ l) c,K.dat b _ l rfl c,o,fun i x j=>?_⟩;obtain⟨m,us,f,h2,u,s⟩:=h i x j;exact⟨m,us,f,CR.kx K h2,CR.kx K u,s⟩
 |.ptr t,x,vs,h=>by
  obtain⟨b,off,us,e,c,d,f,h2⟩:=h;exact⟨b,off,us,e,K.av b d c,bH d K.size,CR.kx K f,h2.kx K c⟩
 |.pair a b,x,vs,h=>by
  obtain⟨us,ws,e,f,h2⟩:=h;exact⟨us,ws,e,CR.kx K f,CR.kx K h2⟩
end
section
variable [Globs] {g:É} {G':Nat->Prop} {D:AS Deferred} {Q:AN Nat} {M:Nat} {ν:Nat->Value} {h:AS Blk} {w w':World}
structure Ū (g:É) (ν:Nat->Value) (h:AS Blk) (w:World) (G':Nat->Prop) (w':World):Prop where
 os:w'.os=w.os
 tape:w'.tape=w.tape
 output:w'.output=w.output
 size:w.heap.size<=w'.heap.size
 av:∀b,b<w.heap.size->¬@Av _ g ν h b->¬G' b
 dat:∀(b:Nat) (o:Obj),w.heap[b]?=some o->wH o=true->(@Av _ g ν h b->jG ν h b)->w'.heap[b]?=some o
 nd:∀(b:Nat) (o:Obj),w.heap[b]?=some o->wH o=false->b<g.B->w'.heap[b]?=some o
 gl:Globs.Φ w->∀b,b<Globs.n->w'.heap[b]?=w.heap[b]?
def Ū.kx (K:Ū g ν h w G' w'):Qm w (@Av _ g ν h) w' (@Av _ (g.re G' D Q M) ν h) :=
 ⟨K.size,fun b hb c d=>d.elim (fun f=>c (.inl f)) (K.av b hb c),fun b o hb e c=>K.dat b o hb e fun d=>absurd d c⟩
def VR0.step (K:Ū g ν h w G' w') {a:AV} {v:Value} (c:@VR0 _ g ν h w a v):@VR0 _ (g.re G' D Q M) ν h w' a v:=by
 cases a with
 |slc t xs=>exact CR.kx (Ū.kx (D:=D) (Q:=Q) (M:=M) K) (t:=.slice t) c
 |mp k t es=>exact CR.kx (Ū.kx (D:=D) (Q:=Q) (M:=M) K) (t:=.map k t) c
 |eptr t x off =>
  obtain⟨b,o,us,j,h2,e,i,f⟩:=c;have d:=Ū.kx (D:=D) (Q:=Q) (M:=M) K;exact⟨b,o,us,j,d.av b e h2,bH e K.size,CR.kx d i,f.kx d h2⟩
 |_=>exact c
def VR1.step (K:Ū g ν h w G' w') {a:AV} {v:Value} (b:@VR1 _ g ν h w a v):@VR1 _ (g.re G' D Q M) ν h w' a v:=by
 cases c:a.isFn with
 |true =>
  cases a<;>try cases c
  obtain⟨fs,cs,e,h2,d⟩:=b;exact⟨fs,cs,e,h2.mono fun _ _=>VR0.step K,d.mono fun _ _=>VR0.step K⟩
 |false =>
  rw[@nu _ (g.re G' D Q M) _ _ _ _ _ c];rw[@nu _ g _ _ _ _ _ c] at b;exact VR0.step K b
def VRc.step (K:Ū g ν h w G' w') {a:AV} {v:Value} (b:@VRc _ g ν h w a v):@VRc _ (g.re G' D Q M) ν h w' a v:=⟨VR1.step K b.1,b.2⟩
def VR2.step (K:Ū g ν h w G' w') {a:AV} {v:Value} (b:@VR2 _ g ν h w a v):@VR2 _ (g.re G' D Q M) ν h w' a v:=by
 cases c:a.isAgg with
 |true =>
  cases a<;>try cases c
  obtain⟨vs,d,h2⟩:=b;exact⟨vs,d,h2.mono fun _ _=>VRc.step K⟩
 |false =>
  rw[@oZ _ (g.re G' D Q M) _ _ _ _ _ c];rw[@oZ _ g _ _ _ _ _ c] at b;exact VR1.step K b
def VR.step (K:Ū g ν h w G' w') {a:AV} {v:Value} (b:@VR _ g ν h w a v):@VR _ (g.re G' D Q M) ν h w' a v:=by
 cases c:a.isTup with
 |true =>
  cases a<;>try cases c
  obtain⟨vs,d,h2⟩:=b;exact⟨vs,d,h2.mono fun _ _=>VR2.step K⟩
 |false =>
  rw[@nc _ (g.re G' D Q M) _ _ _ _ _ c];rw[@nc _ g _ _ _ _ _ c] at b;exact VR2.step K b
def HR.step (K:Ū g ν h w G' w') (W:∀b,G' b->b<w'.heap.size) (V:∀b,jG ν h b->¬G' b) (H:@HR _ g ν h w):@HR _ (g.re G' D Q M) ν h w':=by
 have O:Qm w (@Av _ g ν h) w' (@Av _ (g.re G' D Q M) ν h):=Ū.kx K;have live:∀(id b:Nat) (o:Obj),(lkB h id).live=true->ć (ν id) b->w.heap[b]?=some o->wH o=true->w'.heap[b]?=some o:=fun id b o z U hb hd=>K.dat b o hb hd fun _=>⟨id,z,U⟩;refine @HR.mk _ (g.re G' D Q M) ν h w' (fun id=>?_) (@HR.inj _ g _ _ _ H) W (fun id b z hb=>V b ⟨id,z,hb⟩) (Globs.keep _ _ (@HR.glob _ g _ _ _ H) fun b hb=>K.gl (@HR.glob _ g _ _ _ H) b hb) (@HR.globL _ g _ _ _ H);have r:=@HR.blk _ g _ _ _ H id;have d:=live id
 cases z:lkB h id with
 |dead=>trivial
 |cells cs =>
  rw[z] at r d;obtain⟨b,c,e,j,h2,s⟩:=r;exact⟨b,c,e,j,d b _ rfl (by rw[j]; rfl) h2 rfl,s.mono fun _ _=>VRc.step K⟩
 |row t g' fz xs =>
  rw[z] at r d
  cases fz with
  |true=>exact CR.kx O (t:=.slice t) r
  |false =>
   obtain⟨base,cap,j,h2,s⟩:=r;refine⟨base,cap,j,h2,?_⟩;rcases s with s|⟨b,off,c,e,B,S,h6,h7⟩
   ·exact .inl s
   ·have L:=d b _ rfl (by rw[j,B]; rfl) S rfl;refine .inr ⟨b,off,c,e,B,L,h6,fun i x G=>?_⟩;obtain⟨us,y,A⟩:=h7 i x G;exact⟨us,CR.kx O y,A.keep (L.trans S.symm)⟩
 |map k v es =>
  rw[z] at r d;obtain⟨b,f,p,j,h2,s,B⟩:=r;refine⟨b,f,p,j,d b _ rfl (by rw[j]; rfl) h2 rfl,s,fun i x G=>?_⟩;obtain⟨m,us,y,A,C,R⟩:=B i x G;exact⟨m,us,y,CR.kx O A,CR.kx O C,R⟩
 |fns es =>
  rw[z] at r d;obtain⟨b,f,p,j,h2,s⟩:=r;exact⟨b,f,p,j,d b _ rfl (by rw[j]; rfl) h2 rfl,s.mono fun _ _ q=>⟨q.1,q.2.1,VR1.step K q.2.2⟩⟩
 |deep k g' xss =>
  rw[z] at r d;obtain⟨base,cap,us,j,h2,s,B,S⟩:=r;have own:∀u∈Value.slice base xss.length cap::us,∀(b:Nat) (o:Obj),Χ u=some b->w.heap[b]?=some o->wH o=true->w'.heap[b]?=some o:=fun u I b o hb=>d b o rfl (by rw[j]; exact⟨u,by simpa using I,hb⟩);refine⟨base,cap,us,j,h2,s,?_,?_⟩
  ·rcases B with B|⟨b,off,c,e,y,A,C⟩
   ·exact .inl B
   ·exact .inr ⟨b,off,c,e,y,own _ (.head _) b _ (by rw[y]; rfl) A rfl,C⟩
  ·have T:∀(l:AS (AS Int)) (m:AS Value),(∀u∈m,u∈us)->ä (HW w k) l m->ä (HW w' k) l m:=by
    intro l
    induction l with
    |nil=>intro m _ J; cases m with
     |nil=>trivial
     |cons=>exact J.elim
    |cons x l ih=>intro m Y J; cases m with
     |nil=>exact J.elim
     |cons u m =>
      refine⟨?_,ih m (fun u I=>Y u (dR _ I)) J.2⟩;obtain⟨E,N,y,A,C⟩:=J.1;refine⟨E,N,y,A,?_⟩;rcases C with C|⟨b,off,c,e,R,q5,Z⟩
      ·exact .inl C
      ·exact .inr ⟨b,off,c,e,R,own u (dR _ (Y u (.head _))) b _ (by rw[y,R]; rfl) q5 rfl,Z⟩
   exact T _ _ (fun u I=>I) S
 |acc t xs =>
  rw[z] at r d;obtain⟨us,j,h2,s,B⟩:=r;refine⟨us,j,fun b hb=>?_,s,?_⟩
  ·obtain⟨o,y,A⟩:=h2 b hb;exact⟨o,d b o rfl hb y A,A⟩
  ·refine g.st _ _ _ _ _ _ B ⟨K.os,K.tape,K.output,K.size,O.av,fun b o hb U G=>K.dat b o hb U fun hA=>⟨id,by rw[z]; rfl,G hA⟩,K.nd,K.gl⟩
def HR.re (H:@HR _ g ν h w):@HR _ (g.re g.G D Q M) ν h w:=@HR.mk _ (g.re g.G D Q M) ν h w (@HR.blk _ g ν h w H) (@HR.inj _ g ν h w H) (@HR.ghlt _ g ν h w H) (@HR.ghne _ g ν h w H) (@HR.glob _ g ν h w H) (@HR.globL _ g ν h w H)
def HR.er (H:@HR _ (g.re g.G D Q M) ν h w):@HR _ g ν h w:=@HR.mk _ g ν h w (@HR.blk _ (g.re g.G D Q M) ν h w H) (@HR.inj _ (g.re g.G D Q M) ν h w H) (@HR.ghlt _ (g.re g.G D Q M) ν h w H) (@HR.ghne _ (g.re g.G D Q M) ν h w H) (@HR.glob _ (g.re g.G D Q M) ν h w H) (@HR.globL _ (g.re g.G D Q M) ν h w H)
def Ū.less {G':Nat->Prop} (e:∀b,G' b->g.G b):Ū g ν h w G' w:=⟨rfl,rfl,rfl,bt _,fun b _ c d=>c (.inr (e b d)),fun b o hb _ _=>hb,fun b o hb _ _=>hb,fun _ _ _=>rfl⟩
def Ū.nds (d:w'.os=w.os) (j:w'.tape=w.tape) (l:w'.output=w.output) (k:w.heap.size<=w'.heap.size) (f:∀(b:Nat) (o:Obj),w.heap[b]?=some o->wH o=true\/b<g.B->w'.heap[b]?=some o):Ū g ν h w g.G w' :=
 ⟨d,j,l,k,fun b _ m p=>m (.inr p),fun b o hb hd _=>f b o hb (.inl hd),fun b o hb _ e=>f b o hb (.inr e),fun c b hb=>by obtain⟨o,i,h2⟩:=Globs.dat w c b hb; rw[f b o i (.inl h2),i]⟩
end
end Go.Am
end
